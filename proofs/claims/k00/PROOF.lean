import PyProof.Rows.All
import HandS.ForMost
import HandS.Style
import HandS.TupAny
import HandS.IsInst
import HandS.Defaults
import HandS.Flow
import HandS.HeadHook2
import HandS.Deep
import HandS.NoneIn
import HandS.Head2
import HandS.HeadEnd
import HandS.Small
import PySem.Challenge.RW_turnpike_k00_whole_ends_exchanged
set_option Elab.async false
set_option linter.all false
set_option autoImplicit false
set_option maxRecDepth 100000
/-! DtA: plain data, cells, what they stand for in the abstract heap. -/
namespace Dt
open PySem PySem.Spec PyProof.Rows L2

inductive D where
  | non | bl (b : Bool) | int (i : Int) | str (x : String) | tup (xs : List D) | ref (n : Nat)

mutual
def RD (K : PySem.W.Frag) (H : Hp) (ι : List Addr) : D → V → Prop
  | .non, v => v = .non
  | .bl b, v => v = .bl b
  | .int i, v => v = .int i
  | .str x, v => v = .str (Str.ofString x)
  | .tup xs, v => ∃ a vs, v = .ref a ∧ SqT K H a vs ∧ RDs K H ι xs vs
  | .ref n, v => ∃ a, ι[n]? = some a ∧ v = .ref a
def RDs (K : PySem.W.Frag) (H : Hp) (ι : List Addr) : List D → List V → Prop
  | [], vs => vs = []
  | x :: xs, vs => ∃ v r, vs = v :: r ∧ RD K H ι x v ∧ RDs K H ι xs r
end
/-- values under keys -/
def RKs {κ : Type} (K : PySem.W.Frag) (H : Hp) (ι : List Addr) : List (κ × D) → List (κ × V) → Prop
  | [], vs => vs = []
  | x :: xs, vs => ∃ v r, vs = (x.1, v) :: r ∧ RD K H ι x.2 v ∧ RKs K H ι xs r

/-- .. under names -/
def RFs (K : PySem.W.Frag) (H : Hp) (ι : List Addr) : List (String × D) → List (Str × V) → Prop
  | [], vs => vs = []
  | x :: xs, vs => ∃ v r, vs = (Str.ofString x.1, v) :: r ∧ RD K H ι x.2 v ∧ RFs K H ι xs r
theorem ofString_inj {s t : String} (h : Str.ofString s = Str.ofString t) : s = t := by
  rw [Str.ofString_eq_toList, Str.ofString_eq_toList] at h
  have h1 : s.toList.map Char.toNat = t.toList.map Char.toNat := by
    have := congrArg (fun z : Str => z.cps.toList) h
    simpa using this
  have h2 : s.toList = t.toList := by
    refine List.map_inj_right (f := Char.toNat) ?_ |>.mp h1
    intro x y e
    exact Char.ext (UInt32.toNat_inj.mp e)
  exact String.toList_inj.mp h2
theorem ofString_eq_iff {s t : String} : Str.ofString s = Str.ofString t ↔ s = t := ⟨ofString_inj, fun h => by rw [h]⟩

/-- tuples stay -/
def TExt (K : PySem.W.Frag) (H H' : Hp) : Prop := ∀ a xs, SqT K H a xs → SqT K H' a xs
theorem TExt.rfl' {K : PySem.W.Frag} {H : Hp} : TExt K H H := fun _ _ h => h
theorem TExt.trans {K : PySem.W.Frag} {H H1 H2 : Hp} (a : TExt K H H1) (b : TExt K H1 H2) : TExt K H H2 := fun x y h => b x y (a x y h)
theorem TExt.upd {K : PySem.W.Frag} {H : Hp} {p : Addr} {o : HO} (h : H p = none) : TExt K H (upd H p o) := fun a xs q => by
  rcases q with (q | ⟨o', q⟩) | q
  · exact .inl (.inl (by rw [upd_ne (ne_of_none q h)]; exact q))
  · exact .inl (.inr ⟨o', by rw [upd_ne (ne_of_none q h)]; exact q⟩)
  · exact .inr q
/-- what a cell that may be written looks like -/
def mutO : HO → Bool
  | .lst _ => true
  | .dK _ => true
  | .dT _ => true
  | .ins _ _ _ => true
  | _ => false
theorem TExt.write {K : PySem.W.Frag} {H : Hp} {p : Addr} {o o' : HO} (h : H p = some o) (hm : mutO o = true) : TExt K H (L2.upd H p o') := fun a xs q => by
  have ne : ∀ u, H a = some u → mutO u = false → a ≠ p := fun u e z w => by
    subst w
    rw [h] at e
    cases e
    rw [hm] at z
    cases z
  rcases q with (q | ⟨o', q⟩) | q
  · exact .inl (.inl (by rw [upd_ne (ne _ q rfl)]; exact q))
  · exact .inl (.inr ⟨o', by rw [upd_ne (ne _ q rfl)]; exact q⟩)
  · exact .inr q

theorem getElem?_prefix {α : Type} {l l' : List α} (h : l <+: l') {i : Nat} {x : α} (e : l[i]? = some x) : l'[i]? = some x := by
  obtain ⟨t, rfl⟩ := h
  have := (List.getElem?_eq_some_iff.mp e).1
  rw [List.getElem?_append_left this]
  exact e

section
variable {K : PySem.W.Frag} {H H' : Hp} {ι ι' : List Addr}
mutual
theorem RD.mono (p : ι <+: ι') (t : TExt K H H') : ∀ {x : D} {v : V}, RD K H ι x v → RD K H' ι' x v
  | .non, _, h => by unfold RD at h ⊢; exact h
  | .bl _, _, h => by unfold RD at h ⊢; exact h
  | .int _, _, h => by unfold RD at h ⊢; exact h
  | .str _, _, h => by unfold RD at h ⊢; exact h
  | .tup xs, v, h => by
    unfold RD at h ⊢
    obtain ⟨a, vs, e, s, r⟩ := h
    exact ⟨a, vs, e, t a vs s, RDs.mono p t r⟩
  | .ref n, v, h => by
    unfold RD at h ⊢
    obtain ⟨a, e, q⟩ := h
    exact ⟨a, getElem?_prefix p e, q⟩
theorem RDs.mono (p : ι <+: ι') (t : TExt K H H') : ∀ {xs : List D} {vs : List V}, RDs K H ι xs vs → RDs K H' ι' xs vs
  | [], _, h => by unfold RDs at h ⊢; exact h
  | x :: xs, vs, h => by
    unfold RDs at h ⊢
    obtain ⟨v, r, e, h1, h2⟩ := h
    exact ⟨v, r, e, RD.mono p t h1, RDs.mono p t h2⟩
end
theorem RKs.mono {κ : Type} (p : ι <+: ι') (t : TExt K H H') : ∀ {xs : List (κ × D)} {vs : List (κ × V)}, RKs K H ι xs vs → RKs K H' ι' xs vs
  | [], _, h => h
  | x :: xs, vs, h => by
    obtain ⟨v, r, e, h1, h2⟩ := h
    exact ⟨v, r, e, h1.mono p t, RKs.mono p t h2⟩

theorem RFs.mono (p : ι <+: ι') (t : TExt K H H') : ∀ {xs : List (String × D)} {vs : List (Str × V)}, RFs K H ι xs vs → RFs K H' ι' xs vs
  | [], _, h => h
  | x :: xs, vs, h => by
    obtain ⟨v, r, e, h1, h2⟩ := h
    exact ⟨v, r, e, h1.mono p t, RFs.mono p t h2⟩

theorem RDs.nil : RDs K H ι [] [] := by unfold RDs; rfl
theorem RDs.cons {x : D} {v : V} {xs : List D} {vs : List V} (h : RD K H ι x v) (hs : RDs K H ι xs vs) : RDs K H ι (x :: xs) (v :: vs) := by
  unfold RDs; exact ⟨v, vs, rfl, h, hs⟩
theorem RDs.inv {x : D} {xs : List D} {vs : List V} (h : RDs K H ι (x :: xs) vs) : ∃ v r, vs = v :: r ∧ RD K H ι x v ∧ RDs K H ι xs r := by unfold RDs at h; exact h
theorem RDs.inv0 {vs : List V} (h : RDs K H ι [] vs) : vs = [] := by unfold RDs at h; exact h
theorem RDs.length : ∀ {xs : List D} {vs : List V}, RDs K H ι xs vs → xs.length = vs.length
  | [], _, h => by rw [h.inv0]; rfl
  | x :: xs, vs, h => by
    obtain ⟨v, r, rfl, _, h2⟩ := h.inv
    rw [List.length_cons, List.length_cons, RDs.length h2]
theorem RDs.get : ∀ {xs : List D} {vs : List V}, RDs K H ι xs vs → ∀ {i : Nat} {x : D}, xs[i]? = some x → ∃ v, vs[i]? = some v ∧ RD K H ι x v
  | [], _, _, i, x, e => by simp at e
  | y :: xs, vs, h, 0, x, e => by
    obtain ⟨v, r, rfl, h1, h2⟩ := h.inv
    simp at e; subst e
    exact ⟨v, rfl, h1⟩
  | y :: xs, vs, h, i + 1, x, e => by
    obtain ⟨v, r, rfl, h1, h2⟩ := h.inv
    obtain ⟨w, e1, e2⟩ := RDs.get h2 (i := i) (x := x) (by simpa using e)
    exact ⟨w, by simpa using e1, e2⟩
theorem RDs.append : ∀ {xs ys : List D} {vs ws : List V}, RDs K H ι xs vs → RDs K H ι ys ws → RDs K H ι (xs ++ ys) (vs ++ ws)
  | [], _, _, _, h, g => by rw [h.inv0]; exact g
  | x :: xs, ys, vs, ws, h, g => by
    obtain ⟨v, r, rfl, h1, h2⟩ := h.inv
    exact RDs.cons h1 (RDs.append h2 g)
theorem RDs.take : ∀ (n : Nat) {xs : List D} {vs : List V}, RDs K H ι xs vs → RDs K H ι (xs.take n) (vs.take n)
  | 0, _, _, _ => RDs.nil
  | n + 1, [], vs, h => by rw [h.inv0]; exact RDs.nil
  | n + 1, x :: xs, vs, h => by
    obtain ⟨v, r, rfl, h1, h2⟩ := h.inv
    exact RDs.cons h1 (RDs.take n h2)
theorem RDs.drop : ∀ (n : Nat) {xs : List D} {vs : List V}, RDs K H ι xs vs → RDs K H ι (xs.drop n) (vs.drop n)
  | 0, _, _, h => h
  | n + 1, [], vs, h => by rw [h.inv0]; exact RDs.nil
  | n + 1, x :: xs, vs, h => by
    obtain ⟨v, r, rfl, h1, h2⟩ := h.inv
    exact RDs.drop n h2
theorem RDs.reverse : ∀ {xs : List D} {vs : List V}, RDs K H ι xs vs → RDs K H ι xs.reverse vs.reverse
  | [], _, h => by rw [h.inv0]; exact RDs.nil
  | x :: xs, vs, h => by
    obtain ⟨v, r, rfl, h1, h2⟩ := h.inv
    rw [List.reverse_cons, List.reverse_cons]
    exact (RDs.reverse h2).append (RDs.cons h1 RDs.nil)
theorem RDs.set {x : D} {v : V} (hx : RD K H ι x v) : ∀ {xs : List D} {vs : List V} (i : Nat), RDs K H ι xs vs → RDs K H ι (xs.set i x) (vs.set i v)
  | [], _, _, h => by rw [h.inv0]; exact RDs.nil
  | y :: xs, vs, 0, h => by
    obtain ⟨w, r, rfl, h1, h2⟩ := h.inv
    exact RDs.cons hx h2
  | y :: xs, vs, i + 1, h => by
    obtain ⟨w, r, rfl, h1, h2⟩ := h.inv
    exact RDs.cons h1 (RDs.set hx i h2)
theorem RDs.eraseIdx : ∀ {xs : List D} {vs : List V} (i : Nat), RDs K H ι xs vs → RDs K H ι (xs.eraseIdx i) (vs.eraseIdx i)
  | [], _, _, h => by rw [h.inv0]; exact RDs.nil
  | y :: xs, vs, 0, h => by
    obtain ⟨w, r, rfl, h1, h2⟩ := h.inv
    exact h2
  | y :: xs, vs, i + 1, h => by
    obtain ⟨w, r, rfl, h1, h2⟩ := h.inv
    exact RDs.cons h1 (RDs.eraseIdx i h2)
theorem RDs.dropLast {xs : List D} {vs : List V} (h : RDs K H ι xs vs) : RDs K H ι xs.dropLast vs.dropLast := by
  rw [List.dropLast_eq_take, List.dropLast_eq_take, h.length]
  exact h.take _
theorem RDs.ints : ∀ {ns : List Int} {vs : List V}, RDs K H ι (ns.map D.int) vs → vs = ns.map V.int
  | [], _, h => h.inv0
  | n :: ns, vs, h => by
    obtain ⟨v, r, rfl, h1, h2⟩ := h.inv
    unfold RD at h1
    rw [h1, RDs.ints h2]; rfl
theorem RDs.of_ints : ∀ (ns : List Int), RDs K H ι (ns.map D.int) (ns.map V.int)
  | [] => RDs.nil
  | n :: ns => RDs.cons (by unfold RD; rfl) (RDs.of_ints ns)
theorem RDs.bls : ∀ {ns : List Bool} {vs : List V}, RDs K H ι (ns.map D.bl) vs → vs = ns.map V.bl
  | [], _, h => h.inv0
  | n :: ns, vs, h => by
    obtain ⟨v, r, rfl, h1, h2⟩ := h.inv
    unfold RD at h1
    rw [h1, RDs.bls h2]; rfl
theorem RKs.length {κ : Type} : ∀ {xs : List (κ × D)} {vs : List (κ × V)}, RKs K H ι xs vs → xs.length = vs.length
  | [], _, h => by rw [show _ = [] from h]; rfl
  | x :: xs, vs, h => by
    obtain ⟨v, r, rfl, _, h2⟩ := h
    rw [List.length_cons, List.length_cons, RKs.length h2]
end

/-! ### cells -/
inductive Cell where
  | lst (xs : List D)
  | ro (xs : List D)
  | dct (kvs : List (Key × D))
  | dtu (kvs : List (List Key × D))
  | ins (c : String) (fs : List (String × D))
def Cell.mut : Cell → Bool
  | .ro _ => false
  | _ => true
abbrev Hd := List Cell

def SqR (K : PySem.W.Frag) (H : Hp) (a : Addr) (xs : List V) : Prop :=
  (∃ o, H a = some (.frz o (.lst xs))) ∨
    ∃ (o : Obj) (its : Array Value) (n : Nat), K.lookup a = some o ∧ o.cls = .type "list" ∧ o.dict = none ∧ o.data = .seq its n ∧ its.size ≤ sizeLine ∧ Vals xs its.toList
theorem SqR.sq {K : PySem.W.Frag} {H : Hp} {a : Addr} {xs : List V} (h : SqR K H a xs) : SqL K H a xs := by
  rcases h with h | h
  · exact .inl (.inr h)
  · exact .inr h
def CellOk (K : PySem.W.Frag) (H : Hp) (ι : List Addr) (a : Addr) : Cell → Prop
  | .lst xs => ∃ vs, H a = some (.lst vs) ∧ RDs K H ι xs vs
  | .ro xs => ∃ vs, SqR K H a vs ∧ RDs K H ι xs vs
  | .dct kvs => ∃ vs, H a = some (.dK vs) ∧ RKs K H ι kvs vs
  | .dtu kvs => ∃ vs, H a = some (.dT vs) ∧ RKs K H ι kvs vs
  | .ins c fs => ∃ dx vs, H a = some (.ins (He.ga K (Str.ofString c)) dx vs) ∧ RFs K H ι fs vs

structure RelH (K : PySem.W.Frag) (ι : List Addr) (h : Hd) (H : Hp) : Prop where
  len : ι.length = h.length
  ok : ∀ (n : Nat) (c : Cell) (a : Addr), h[n]? = some c → ι[n]? = some a → CellOk K H ι a c
  inj : ∀ (n m : Nat) (a : Addr) (c d : Cell), ι[n]? = some a → ι[m]? = some a → h[n]? = some c → h[m]? = some d → c.mut = true → d.mut = true → n = m

section
variable {K : PySem.W.Frag} {H H' : Hp} {ι ι' : List Addr} {h h' : Hd} {a p : Addr} {c d : Cell} {n : Nat} {o : HO}
theorem CellOk.mutH (x : CellOk K H ι a c) (m : c.mut = true) : ∃ o, H a = some o ∧ mutO o = true := by
  cases c with
  | ro xs => cases m
  | lst xs => obtain ⟨vs, e, _⟩ := x; exact ⟨_, e, rfl⟩
  | dct xs => obtain ⟨vs, e, _⟩ := x; exact ⟨_, e, rfl⟩
  | dtu xs => obtain ⟨vs, e, _⟩ := x; exact ⟨_, e, rfl⟩
  | ins c xs => obtain ⟨dx, vs, e, _⟩ := x; exact ⟨_, e, rfl⟩
/-- a cell where the heap changed elsewhere -/
theorem CellOk.keep (x : CellOk K H ι a c) (p : ι <+: ι') (t : TExt K H H') (k : ∀ o, H a = some o → H' a = some o) : CellOk K H' ι' a c := by
  cases c with
  | ro xs =>
    obtain ⟨vs, e, r⟩ := x
    refine ⟨vs, ?_, r.mono p t⟩
    rcases e with ⟨o, e⟩ | e
    · exact .inl ⟨o, k _ e⟩
    · exact .inr e
  | lst xs => obtain ⟨vs, e, r⟩ := x; exact ⟨vs, k _ e, r.mono p t⟩
  | dct xs => obtain ⟨vs, e, r⟩ := x; exact ⟨vs, k _ e, r.mono p t⟩
  | dtu xs => obtain ⟨vs, e, r⟩ := x; exact ⟨vs, k _ e, r.mono p t⟩
  | ins c xs => obtain ⟨dx, vs, e, r⟩ := x; exact ⟨dx, vs, k _ e, r.mono p t⟩
theorem RelH.at (R : RelH K ι h H) (e : h[n]? = some c) : ∃ a, ι[n]? = some a ∧ CellOk K H ι a c := by
  have hn := (List.getElem?_eq_some_iff.mp e).1
  have hn' : n < ι.length := by rw [R.len]; exact hn
  exact ⟨ι[n], by simp [hn'], R.ok n c _ e (by simp [hn'])⟩
/-- an untracked object laid -/
theorem RelH.fresh (R : RelH K ι h H) (hp : H p = none) : RelH K ι h (upd H p o) :=
  ⟨R.len, fun n c a e1 e2 => (R.ok n c a e1 e2).keep (List.prefix_refl _) (TExt.upd hp) fun u q => by rw [upd_ne (ne_of_none q hp)]; exact q, R.inj⟩
/-- a new cell -/
theorem RelH.alloc (R : RelH K ι h H) (hp : H p = none) (x : CellOk K (upd H p o) (ι ++ [p]) p c) : RelH K (ι ++ [p]) (h ++ [c]) (upd H p o) := by
  have pre : ι <+: ι ++ [p] := ⟨[p], rfl⟩
  have old : ∀ (n : Nat) (c : Cell) (a : Addr), h[n]? = some c → ι[n]? = some a → CellOk K (upd H p o) (ι ++ [p]) a c := fun n c a e1 e2 =>
    (R.ok n c a e1 e2).keep pre (TExt.upd hp) fun u q => by rw [upd_ne (ne_of_none q hp)]; exact q
  refine ⟨by rw [List.length_append, List.length_append, R.len]; rfl, fun n c' a e1 e2 => ?_, fun n m a c' d' i1 i2 e1 e2 m1 m2 => ?_⟩
  · by_cases hn : n < h.length
    · rw [List.getElem?_append_left hn] at e1
      rw [List.getElem?_append_left (by rw [R.len]; exact hn)] at e2
      exact old n c' a e1 e2
    · have hl := (List.getElem?_eq_some_iff.mp e1).1
      rw [List.length_append, List.length_singleton] at hl
      have : n = h.length := by omega
      subst this
      rw [List.getElem?_append_right (Nat.le_refl _), Nat.sub_self] at e1
      rw [List.getElem?_append_right (by rw [R.len]; exact Nat.le_refl _), R.len, Nat.sub_self] at e2
      simp at e1 e2
      subst e1 e2
      exact x
  · have new : ∀ {k : Nat} {c : Cell} {a : Addr}, h[k]? = some c → ι[k]? = some a → c.mut = true → a ≠ p := fun {k c a} q1 q2 m => by
      obtain ⟨o', e, _⟩ := (R.ok k c a q1 q2).mutH m
      exact ne_of_none e hp
    have cut : ∀ {k : Nat} {c'' : Cell} {a'' : Addr}, (h ++ [c])[k]? = some c'' → (ι ++ [p])[k]? = some a'' → (k < h.length ∧ h[k]? = some c'' ∧ ι[k]? = some a'') ∨ (k = h.length ∧ a'' = p) := by
      intro k c'' a'' e1 e2
      by_cases hn : k < h.length
      · rw [List.getElem?_append_left hn] at e1
        rw [List.getElem?_append_left (by rw [R.len]; exact hn)] at e2
        exact .inl ⟨hn, e1, e2⟩
      · have hl := (List.getElem?_eq_some_iff.mp e1).1
        rw [List.length_append, List.length_singleton] at hl
        have : k = h.length := by omega
        subst this
        rw [List.getElem?_append_right (by rw [R.len]; exact Nat.le_refl _), R.len, Nat.sub_self] at e2
        simp at e2
        exact .inr ⟨rfl, e2.symm⟩
    rcases cut e1 i1 with ⟨_, q1, q2⟩ | ⟨k1, k2⟩ <;> rcases cut e2 i2 with ⟨_, z1, z2⟩ | ⟨j1, j2⟩
    · exact R.inj n m a c' d' q2 z2 q1 z1 m1 m2
    · exact absurd j2 (new q1 q2 m1)
    · exact absurd k2 (new z1 z2 m2)
    · rw [k1, j1]
/-- a cell written -/
theorem RelH.write (R : RelH K ι h H) (e : h[n]? = some d) (m : d.mut = true) (i : ι[n]? = some a) (x : CellOk K (upd H a o) ι a c) (mc : c.mut = true) : RelH K ι (h.set n c) (upd H a o) := by
  obtain ⟨od, ea, mo⟩ := (R.ok n d a e i).mutH m
  have hn := (List.getElem?_eq_some_iff.mp e).1
  refine ⟨by rw [List.length_set]; exact R.len, fun k c' b e1 e2 => ?_, fun k j b c' d' i1 i2 e1 e2 m1 m2 => ?_⟩
  · by_cases hk : k = n
    · subst hk
      rw [List.getElem?_set_self hn] at e1
      cases e1
      rw [i] at e2; cases e2
      exact x
    · rw [List.getElem?_set_ne (Ne.symm hk)] at e1
      have old := R.ok k c' b e1 e2
      have te : TExt K H (upd H a o) := TExt.write ea mo
      cases hm : c'.mut with
      | true =>
        have hb : b ≠ a := fun z => by
          subst z
          exact hk (R.inj k n b c' d e2 i e1 e hm m)
        exact old.keep (List.prefix_refl _) te fun u q => by rw [upd_ne hb]; exact q
      | false =>
        cases c' with
        | ro xs =>
          obtain ⟨vs, z, r⟩ := old
          refine ⟨vs, ?_, r.mono (List.prefix_refl _) te⟩
          rcases z with ⟨o', z⟩ | z
          · refine .inl ⟨o', ?_⟩
            rw [upd_ne (fun q => by subst q; rw [ea] at z; cases z; cases mo)]
            exact z
          · exact .inr z
        | lst _ => cases hm
        | dct _ => cases hm
        | dtu _ => cases hm
        | ins _ _ => cases hm
  · by_cases hk : k = n <;> by_cases hj : j = n
    · rw [hk, hj]
    · subst hk
      rw [List.getElem?_set_ne (Ne.symm hj)] at e2
      exact R.inj k j b d d' i1 i2 e e2 m m2
    · subst hj
      rw [List.getElem?_set_ne (Ne.symm hk)] at e1
      exact R.inj k j b c' d i1 i2 e1 e m1 m
    · rw [List.getElem?_set_ne (Ne.symm hk)] at e1
      rw [List.getElem?_set_ne (Ne.symm hj)] at e2
      exact R.inj k j b c' d' i1 i2 e1 e2 m1 m2
end
end Dt

set_option Elab.async false
set_option linter.all false
set_option autoImplicit false
set_option maxRecDepth 100000
/-! DtB: the runs (M), what it means that a piece of syntax does such a run (DE, DT, DA, DS), names, constants, operators. -/
namespace Dt
open PySem PySem.Spec PyProof.Rows L2

/-! ### runs -/
abbrev M (α : Type) := Hd → Option (α × Hd)
def ret {α : Type} (a : α) : M α := fun h => some (a, h)
def bad {α : Type} : M α := fun _ => none
def bnd {α β : Type} (m : M α) (f : α → M β) : M β := fun h => match m h with
  | some (a, h') => f a h'
  | none => none
theorem bnd_some {α β : Type} {m : M α} {f : α → M β} {h h2 : Hd} {b : β} (e : bnd m f h = some (b, h2)) : ∃ a h1, m h = some (a, h1) ∧ f a h1 = some (b, h2) := by
  unfold bnd at e
  cases q : m h with
  | none => rw [q] at e; cases e
  | some r => obtain ⟨a, h1⟩ := r; rw [q] at e; exact ⟨a, h1, rfl, e⟩
/-- sizes that the model takes -/
abbrev LIM : Nat := 1000000
theorem lim_line {n : Nat} (h : n ≤ LIM) : n ≤ sizeLine := by rw [sizeLine_eq]; exact Nat.le_trans h (by decide)
theorem lim_line' {n : Nat} (h : n ≤ LIM) : n < sizeLine := by rw [sizeLine_eq]; exact Nat.lt_of_le_of_lt h (by decide)

/-! ### names' values -/
abbrev Ev := List (Option D)
structure REnv (K : PySem.W.Frag) (H : Hp) (ι : List Addr) (σ : Ev) (τ : L2.St) : Prop where
  len : σ.length = τ.length
  at_ : ∀ (i : Nat) (d : D), σ[i]? = some (some d) → ∃ v, τ[i]? = some (some v) ∧ RD K H ι d v
section
variable {K : PySem.W.Frag} {H H' : Hp} {ι ι' : List Addr} {σ : Ev} {τ : L2.St}
theorem REnv.mono (r : REnv K H ι σ τ) (p : ι <+: ι') (t : TExt K H H') : REnv K H' ι' σ τ := ⟨r.len, fun i d e => let ⟨v, e1, e2⟩ := r.at_ i d e; ⟨v, e1, e2.mono p t⟩⟩
theorem REnv.set (r : REnv K H ι σ τ) {d : D} {v : V} (x : RD K H ι d v) (i : Nat) : REnv K H ι (σ.set i (some d)) (τ.set i (some v)) := by
  refine ⟨by rw [List.length_set, List.length_set]; exact r.len, fun j d' e => ?_⟩
  by_cases hj : i = j
  · subst hj
    have hi : i < σ.length := by
      have := (List.getElem?_eq_some_iff.mp e).1
      rwa [List.length_set] at this
    rw [List.getElem?_set_self hi] at e
    cases e
    exact ⟨v, by rw [List.getElem?_set_self (by rw [← r.len]; exact hi)], x⟩
  · rw [List.getElem?_set_ne hj] at e
    obtain ⟨w, e1, e2⟩ := r.at_ j d' e
    exact ⟨w, by rw [List.getElem?_set_ne hj]; exact e1, e2⟩
end
structure RelS (K : PySem.W.Frag) (ι : List Addr) (σ : Ev) (h : Hd) (τ : L2.St) (H : Hp) : Prop where
  hp : RelH K ι h H
  env : REnv K H ι σ τ
/-- what follows from a run's end -/
def Pst (K : PySem.W.Frag) (ι : List Addr) (H : Hp) (d : D) (h' : Hd) (Q : VK) : Prop := ∀ (ι' : List Addr) (v : V) (H' : Hp), ι <+: ι' → RelH K ι' h' H' → RD K H' ι' d v → TExt K H H' → Q v H'
def PstB (K : PySem.W.Frag) (ι : List Addr) (H : Hp) (b : Bool) (h' : Hd) (Q : Bool → Hp → Prop) : Prop := ∀ (ι' : List Addr) (H' : Hp), ι <+: ι' → RelH K ι' h' H' → TExt K H H' → Q b H'
def PstA (K : PySem.W.Frag) (ι : List Addr) (H : Hp) (ds : List D) (h' : Hd) (Q : List V → Hp → Prop) : Prop := ∀ (ι' : List Addr) (vs : List V) (H' : Hp), ι <+: ι' → RelH K ι' h' H' → RDs K H' ι' ds vs → TExt K H H' → Q vs H'
theorem Pst.step {K : PySem.W.Frag} {ι ι1 : List Addr} {H H1 : Hp} {d : D} {h' : Hd} {Q : VK} (k : Pst K ι H d h' Q) (p : ι <+: ι1) (t : TExt K H H1) : Pst K ι1 H1 d h' Q :=
  fun ι' v H' p' R r t' => k ι' v H' (p.trans p') R r (t.trans t')
theorem PstB.step {K : PySem.W.Frag} {ι ι1 : List Addr} {H H1 : Hp} {d : Bool} {h' : Hd} {Q : Bool → Hp → Prop} (k : PstB K ι H d h' Q) (p : ι <+: ι1) (t : TExt K H H1) : PstB K ι1 H1 d h' Q :=
  fun ι' H' p' R t' => k ι' H' (p.trans p') R (t.trans t')
theorem PstA.step {K : PySem.W.Frag} {ι ι1 : List Addr} {H H1 : Hp} {d : List D} {h' : Hd} {Q : List V → Hp → Prop} (k : PstA K ι H d h' Q) (p : ι <+: ι1) (t : TExt K H H1) : PstA K ι1 H1 d h' Q :=
  fun ι' v H' p' R r t' => k ι' v H' (p.trans p') R r (t.trans t')
theorem RelS.step {K : PySem.W.Frag} {ι ι1 : List Addr} {σ : Ev} {h h1 : Hd} {τ : L2.St} {H H1 : Hp} (S : RelS K ι σ h τ H) (p : ι <+: ι1) (R : RelH K ι1 h1 H1) (t : TExt K H H1) : RelS K ι1 σ h1 τ H1 := ⟨R, S.env.mono p t⟩

def tD (K : PySem.W.Frag) (f : Ev → M D) : TE := fun τ H Q => ∃ (ι : List Addr) (σ : Ev) (h : Hd) (d : D) (h' : Hd), RelS K ι σ h τ H ∧ f σ h = some (d, h') ∧ Pst K ι H d h' Q
def tDB (K : PySem.W.Frag) (f : Ev → M Bool) : TT := fun τ H Q => ∃ (ι : List Addr) (σ : Ev) (h : Hd) (d : Bool) (h' : Hd), RelS K ι σ h τ H ∧ f σ h = some (d, h') ∧ PstB K ι H d h' Q
def tDA (K : PySem.W.Frag) (f : Ev → M (List D)) : TA := fun τ H Q => ∃ (ι : List Addr) (σ : Ev) (h : Hd) (d : List D) (h' : Hd), RelS K ι σ h τ H ∧ f σ h = some (d, h') ∧ PstA K ι H d h' Q
/-- the syntax e runs as f -/
def DE (X : Cx) (e : Expr) (f : Ev → M D) : Prop := PE X e (tD X.K f)
def DT (X : Cx) (e : Expr) (f : Ev → M Bool) : Prop := PT X e (tDB X.K f)
def DW (X : Cx) (e : Expr) (f : Ev → M Bool) : Prop := PW X e (tDB X.K f)
def DA (X : Cx) (es : List Expr) (f : Ev → M (List D)) : Prop := PA X es (tDA X.K f)

theorem PE.le {X : Cx} {e : Expr} {t t' : TE} (h : PE X e t) (w : ∀ τ H Q, t' τ H Q → t τ H Q) : PE X e t' := ⟨fun pins s σ H Q I q => h.run pins s σ H Q I (w _ _ _ q)⟩
theorem PT.le {X : Cx} {e : Expr} {t t' : TT} (h : PT X e t) (w : ∀ τ H Q, t' τ H Q → t τ H Q) : PT X e t' := ⟨fun pins s σ H Q I q => h.run pins s σ H Q I (w _ _ _ q)⟩
theorem PW.le {X : Cx} {e : Expr} {t t' : TT} (h : PW X e t) (w : ∀ τ H Q, t' τ H Q → t τ H Q) : PW X e t' := ⟨fun wh pins s σ H Q I q => h.run wh pins s σ H Q I (w _ _ _ q)⟩
theorem PA.le {X : Cx} {es : List Expr} {t t' : TA} (h : PA X es t) (w : ∀ τ H Q, t' τ H Q → t τ H Q) : PA X es t' := ⟨fun pos pins s σ H Q I q => h.run pos pins s σ H Q I (w _ _ _ q)⟩

section
variable {X : Cx} {a b c e : Expr} {f g k : Ev → M D} {pos : Pos}

/-! ### names, constants -/
def xV (i : Nat) : Ev → M D := fun σ h => match σ[i]? with
  | some (some d) => some (d, h)
  | _ => none
theorem dv (i : Nat) {x : Str} {pos : Pos} (hN : X.N[i]? = some x := by rfl) (hv : Vis X.env.scope x := by first | exact Or.inl rfl | exact Or.inr (Or.inl rfl) | exact Or.inr (Or.inr rfl)) (hd : (x == ("__debug__" : Str)) = false := by decide)
    (hcd : (x == ("__classdict__" : Str)) = false := by decide) : DE X (.Name x pos) (xV i) := by
  refine PE.le (pe_var hN hv hd hcd) fun τ H Q ⟨ι, σ, h, d, h', S, ev, q⟩ => ?_
  unfold xV at ev
  split at ev
  · rename_i d' e1
    cases ev
    obtain ⟨v, e2, r⟩ := S.env.at_ i _ e1
    exact ⟨v, e2, q ι v H (List.prefix_refl _) S.hp r TExt.rfl'⟩
  · cases ev
def xC (d : D) : Ev → M D := fun _ => ret d
theorem de_const {v : V} (d : D) (h : PE X e (tC v)) (r : ∀ H ι, RD X.K H ι d v) : DE X e (xC d) := by
  refine PE.le h fun τ H Q ⟨ι, σ, h, d, h', S, ev, q⟩ => ?_
  cases ev
  exact q ι v H (List.prefix_refl _) S.hp (r H ι) TExt.rfl'
theorem de_int {i : Int} {j : Nat} : DE X (.Constant (.int i) j pos) (xC (.int i)) := de_const (.int i) pe_int fun _ _ => by unfold RD; rfl
theorem de_bl {i : Bool} {j : Nat} : DE X (.Constant (.bool i) j pos) (xC (.bl i)) := de_const (.bl i) pe_bl fun _ _ => by unfold RD; rfl
theorem de_non {j : Nat} : DE X (.Constant .none j pos) (xC .non) := de_const .non pe_non fun _ _ => by unfold RD; rfl
theorem de_str {x : String} {j : Nat} : DE X (.Constant (.str (Str.ofString x)) j pos) (xC (.str x)) := de_const (.str x) pe_str fun _ _ => by unfold RD; rfl
/-- a module's constant: an int -/
theorem de_gint {x : Str} {i : Int} (hg : Gl X x) (hm : ∃ t, X.mg x = some (.int i t)) (hd : (x == ("__debug__" : Str)) = false := by decide) : DE X (.Name x pos) (xC (.int i)) := by
  obtain ⟨t, hm⟩ := hm
  exact de_const (.int i) (pe_glob (v := .int i) hg hm ⟨t, rfl⟩ hd) fun _ _ => by unfold RD; rfl

/-! ### two expressions, one after another -/
theorem two_run {F : Value → Value → Sem Value} {op : D → D → M D} (ha : DE X a f) (hb : DE X b g) {pins : List (Addr × Obj)} {s : Shared} {τ : L2.St} {H : Hp} {Q : VK} (I : Inv X pins τ H s)
    (hw : tD X.K (fun σ => bnd (f σ) fun x => bnd (g σ) fun y => op x y) τ H Q)
    (hop : ∀ (ι : List Addr) (h : Hd) (H : Hp) (x y : D) (d : D) (h' : Hd) (vx vy : V) (s : Shared) (u w : Value), Inv X pins τ H s → RelH X.K ι h H → RD X.K H ι x vx → RD X.K H ι y vy → RelV vx u → RelV vy w → op x y h = some (d, h') → Pst X.K ι H d h' Q →
      wpAny (model X.prog X.w) X.A (F u w) (EP X pins τ Q) X.xe s) :
    wpAny (model X.prog X.w) X.A (eval a X.env) (fun v s₁ => wpAny (model X.prog X.w) X.A (eval b X.env) (fun u s₂ => wpAny (model X.prog X.w) X.A (F v u) (EP X pins τ Q) X.xe s₂) X.xe s₁) X.xe s := by
  obtain ⟨ι, σ, h, d, h', S, ev, q⟩ := hw
  obtain ⟨x, h1, e1, ev⟩ := bnd_some ev
  obtain ⟨y, h2, e2, ev⟩ := bnd_some ev
  refine thn (ha.run pins s τ H (fun vx H1 => ∃ ι1, ι <+: ι1 ∧ RelH X.K ι1 h1 H1 ∧ RD X.K H1 ι1 x vx ∧ TExt X.K H H1) I ⟨ι, σ, h, x, h1, S, e1, fun ι1 v1 H1 p R r t => ⟨ι1, p, R, r, t⟩⟩) fun v s1 ⟨vx, H1, I1, rv, ι1, p1, R1, r1, t1⟩ => ?_
  refine thn (hb.run pins s1 τ H1 (fun vy H2 => ∃ ι2, ι1 <+: ι2 ∧ RelH X.K ι2 h2 H2 ∧ RD X.K H2 ι2 y vy ∧ TExt X.K H1 H2) I1 ⟨ι1, σ, h1, y, h2, S.step p1 R1 t1, e2, fun ι2 v2 H2 p R r t => ⟨ι2, p, R, r, t⟩⟩) fun u s2 ⟨vy, H2, I2, ru, ι2, p2, R2, r2, t2⟩ => ?_
  exact hop ι2 h2 H2 x y d h' vx vy s2 v u I2 R2 (r1.mono p2 t2) r2 rv ru ev (q.step (p1.trans p2) (t1.trans t2))
/-- what F does by values, op tells -/
def OpD (X : Cx) (F : Value → Value → Sem Value) (op : D → D → M D) : Prop :=
  ∀ (ι : List Addr) (h : Hd) (H : Hp) (x y d : D) (h' : Hd) (vx vy : V) (Q : VK), RelH X.K ι h H → RD X.K H ι x vx → RD X.K H ι y vy → op x y h = some (d, h') → Pst X.K ι H d h' Q → ∃ r : R2, OpR X F r ∧ r vx vy H Q
def xOp (op : D → D → M D) (f g : Ev → M D) : Ev → M D := fun σ => bnd (f σ) fun x => bnd (g σ) fun y => op x y
theorem de_op {o : Operator} {op : D → D → M D} (ho : OpD X (binaryOp o) op) (ha : DE X a f) (hb : DE X b g) : DE X (.BinOp a o b pos) (xOp op f g) :=
  ⟨fun pins s τ H Q I hw => wpAny_BinOp (two_run ha hb I hw fun ι h H x y d h' vx vy s u w I R rx ry ru rw ev q => by
    obtain ⟨r, hr, hq⟩ := ho ι h H x y d h' vx vy Q R rx ry ev q
    exact hr pins s τ H vx vy u w Q I ru rw hq)⟩
theorem de_cmp {o : CmpOp} {op : D → D → M D} (ho : OpD X (compareOp o) op) (ha : DE X a f) (hb : DE X b g) (hm : behindInMarks o b = false := by first | exact nomark _ | rfl) : DE X (.Compare a [o] [b] pos) (xOp op f g) :=
  ⟨fun pins s τ H Q I hw => wpAny_Compare1 (two_run ha hb I hw fun ι h H x y d h' vx vy s u w I R rx ry ru rw ev q => by
    obtain ⟨r, hr, hq⟩ := ho ι h H x y d h' vx vy Q R rx ry ev q
    exact hr pins s τ H vx vy u w Q I ru rw hq) hm⟩
/-- a value that is a bool -/
def isB : D → M Bool
  | .bl b => ret b
  | _ => bad
/-- a comparison as a test -/
def xCmpT (op : D → D → M D) (f g : Ev → M D) : Ev → M Bool := fun σ => bnd (f σ) fun x => bnd (g σ) fun y => bnd (op x y) isB
theorem dt_cmp {o : CmpOp} {op : D → D → M D} (ho : OpD X (compareOp o) op) (ha : DE X a f) (hb : DE X b g) (hm : behindInMarks o b = false := by first | exact nomark _ | rfl) : DT X (.Compare a [o] [b] pos) (xCmpT op f g) := by
  refine ⟨fun pins s τ H Q I hw => ?_⟩
  obtain ⟨ι, σ, h, d, h', S, ev, q⟩ := hw
  obtain ⟨x, h1, e1, ev⟩ := bnd_some ev
  obtain ⟨y, h2, e2, ev⟩ := bnd_some ev
  obtain ⟨z, h3, e3, ev⟩ := bnd_some ev
  have tr : z = .bl d ∧ h3 = h' := by
    cases z with
    | bl b => cases ev; exact ⟨rfl, rfl⟩
    | _ => cases ev
  obtain ⟨rfl, rfl⟩ := tr
  have hD : tD X.K (fun σ => bnd (f σ) fun x => bnd (g σ) fun y => op x y) τ H (fun v H' => v = .bl d ∧ Q d H') := by
    refine ⟨ι, σ, h, .bl d, h3, S, ?_, fun ι' v H' p R r t => ⟨by unfold RD at r; exact r, q ι' H' p R t⟩⟩
    unfold bnd
    simp only [e1, e2, e3]
  refine wpAny_isTrue_Compare1 (thn (two_run ha hb I hD fun ι h H x y d h' vx vy s u w I R rx ry ru rw ev q => by
    obtain ⟨r, hr, hq⟩ := ho ι h H x y d h' vx vy _ R rx ry ev q
    exact hr pins s τ H vx vy u w _ I ru rw hq) fun v s1 h1 => thn h1 fun u s2 h2 => thn h2 fun c s3 ⟨x, H1, I1, r1, e, q1⟩ => ?_) hm
  subst e
  cases r1
  exact wpAny_truthy_bool ⟨H1, I1, q1⟩

/-! ### one expression -/
theorem one_run {F : Value → Sem Value} {op : D → M D} (ha : DE X a f) {pins : List (Addr × Obj)} {s : Shared} {τ : L2.St} {H : Hp} {Q : VK} (I : Inv X pins τ H s)
    (hw : tD X.K (fun σ => bnd (f σ) op) τ H Q)
    (hop : ∀ (ι : List Addr) (h : Hd) (H : Hp) (x : D) (d : D) (h' : Hd) (vx : V) (s : Shared) (u : Value), Inv X pins τ H s → RelH X.K ι h H → RD X.K H ι x vx → RelV vx u → op x h = some (d, h') → Pst X.K ι H d h' Q →
      wpAny (model X.prog X.w) X.A (F u) (EP X pins τ Q) X.xe s) :
    wpAny (model X.prog X.w) X.A (eval a X.env) (fun v s₁ => wpAny (model X.prog X.w) X.A (F v) (EP X pins τ Q) X.xe s₁) X.xe s := by
  obtain ⟨ι, σ, h, d, h', S, ev, q⟩ := hw
  obtain ⟨x, h1, e1, ev⟩ := bnd_some ev
  refine thn (ha.run pins s τ H (fun vx H1 => ∃ ι1, ι <+: ι1 ∧ RelH X.K ι1 h1 H1 ∧ RD X.K H1 ι1 x vx ∧ TExt X.K H H1) I ⟨ι, σ, h, x, h1, S, e1, fun ι1 v1 H1 p R r t => ⟨ι1, p, R, r, t⟩⟩) fun v s1 ⟨vx, H1, I1, rv, ι1, p1, R1, r1, t1⟩ => ?_
  exact hop ι1 h1 H1 x d h' vx s1 v I1 R1 r1 rv ev (q.step p1 t1)
def xUn (op : D → M D) (f : Ev → M D) : Ev → M D := fun σ => bnd (f σ) op
def UnD (X : Cx) (F : Value → Sem Value) (op : D → M D) : Prop :=
  ∀ (ι : List Addr) (h : Hd) (H : Hp) (x d : D) (h' : Hd) (vx : V) (Q : VK), RelH X.K ι h H → RD X.K H ι x vx → op x h = some (d, h') → Pst X.K ι H d h' Q → ∃ r, UnR X F r ∧ r vx H Q
theorem de_un {o : UnaryOp} {op : D → M D} (ho : UnD X (unaryOp o) op) (ha : DE X a f) : DE X (.UnaryOp o a pos) (xUn op f) :=
  ⟨fun pins s τ H Q I hw => UnaryOp_ (one_run ha I hw fun ι h H x d h' vx s u I R rx ru ev q => by
    obtain ⟨r, hr, hq⟩ := ho ι h H x d h' vx Q R rx ev q
    exact hr pins s τ H vx u Q I ru hq)⟩

/-! ### truth -/
def truM (x : D) : M Bool := fun h => match x with
  | .non => some (false, h)
  | .bl b => some (b, h)
  | .int i => some (i != 0, h)
  | .str x => if (Str.ofString x).length ≤ LIM then some (((Str.ofString x).length : Int) != 0, h) else none
  | .tup xs => some (!xs.isEmpty, h)
  | .ref n => match h[n]? with
    | some (.lst xs) => some (!xs.isEmpty, h)
    | some (.ro xs) => some (!xs.isEmpty, h)
    | some (.dct kvs) => some (!kvs.isEmpty, h)
    | _ => none
theorem RDs.emp {K : PySem.W.Frag} {H : Hp} {ι : List Addr} {xs : List D} {vs : List V} (r : RDs K H ι xs vs) : xs.isEmpty = vs.isEmpty := by
  cases xs with
  | nil => rw [r.inv0]; rfl
  | cons x xs => obtain ⟨v, w, rfl, _⟩ := r.inv; rfl
theorem RKs.emp {κ : Type} {K : PySem.W.Frag} {H : Hp} {ι : List Addr} {xs : List (κ × D)} {vs : List (κ × V)} (r : RKs K H ι xs vs) : xs.isEmpty = vs.isEmpty := by
  cases xs with
  | nil => rw [show vs = [] from r]; rfl
  | cons x xs => obtain ⟨v, w, rfl, _⟩ := r; rfl
theorem RelH.ro {K : PySem.W.Frag} {ι : List Addr} {h : Hd} {H : Hp} {n : Nat} {xs : List D} {v : V} (R : RelH K ι h H) (e : h[n]? = some (.ro xs)) (r : RD K H ι (.ref n) v) : ∃ a vs, v = .ref a ∧ SqL K H a vs ∧ RDs K H ι xs vs := by
  unfold RD at r
  obtain ⟨a, i, rfl⟩ := r
  obtain ⟨vs, s, q⟩ := R.ok n _ a e i
  exact ⟨a, vs, rfl, s.sq, q⟩
theorem RelH.lst {K : PySem.W.Frag} {ι : List Addr} {h : Hd} {H : Hp} {n : Nat} {xs : List D} {v : V} (R : RelH K ι h H) (e : h[n]? = some (.lst xs)) (r : RD K H ι (.ref n) v) : ∃ a vs, v = .ref a ∧ ι[n]? = some a ∧ H a = some (.lst vs) ∧ RDs K H ι xs vs := by
  unfold RD at r
  obtain ⟨a, i, rfl⟩ := r
  obtain ⟨vs, s, q⟩ := R.ok n _ a e i
  exact ⟨a, vs, rfl, i, s, q⟩
theorem RelH.dct {K : PySem.W.Frag} {ι : List Addr} {h : Hd} {H : Hp} {n : Nat} {xs : List (Key × D)} {v : V} (R : RelH K ι h H) (e : h[n]? = some (.dct xs)) (r : RD K H ι (.ref n) v) : ∃ a vs, v = .ref a ∧ ι[n]? = some a ∧ H a = some (.dK vs) ∧ RKs K H ι xs vs := by
  unfold RD at r
  obtain ⟨a, i, rfl⟩ := r
  obtain ⟨vs, s, q⟩ := R.ok n _ a e i
  exact ⟨a, vs, rfl, i, s, q⟩
theorem RelH.ins {K : PySem.W.Frag} {ι : List Addr} {h : Hd} {H : Hp} {n : Nat} {c : String} {fs : List (String × D)} {v : V} (R : RelH K ι h H) (e : h[n]? = some (.ins c fs)) (r : RD K H ι (.ref n) v) : ∃ a dx vs, v = .ref a ∧ ι[n]? = some a ∧ H a = some (.ins (He.ga K (Str.ofString c)) dx vs) ∧ RFs K H ι fs vs := by
  unfold RD at r
  obtain ⟨a, i, rfl⟩ := r
  obtain ⟨dx, vs, s, q⟩ := R.ok n _ a e i
  exact ⟨a, dx, vs, rfl, i, s, q⟩
theorem truM_ok {ι : List Addr} {h : Hd} {H : Hp} {x : D} {b : Bool} {h' : Hd} {vx : V} {Q : Bool → Hp → Prop} (R : RelH X.K ι h H) (rx : RD X.K H ι x vx) (ev : truM x h = some (b, h')) (q : PstB X.K ι H b h' Q) : ∃ k, TruV X.K vx H k ∧ Q k H := by
  cases x with
  | non => unfold RD at rx; subst rx; cases ev; exact ⟨_, rfl, q ι H (List.prefix_refl _) R TExt.rfl'⟩
  | bl b => unfold RD at rx; subst rx; cases ev; exact ⟨_, rfl, q ι H (List.prefix_refl _) R TExt.rfl'⟩
  | int i => unfold RD at rx; subst rx; cases ev; exact ⟨_, rfl, q ι H (List.prefix_refl _) R TExt.rfl'⟩
  | str z =>
    unfold RD at rx; subst rx
    dsimp only [truM] at ev
    split at ev
    · rename_i hz
      cases ev
      exact ⟨_, ⟨lim_line hz, rfl⟩, q ι H (List.prefix_refl _) R TExt.rfl'⟩
    · cases ev
  | tup xs =>
    unfold RD at rx
    obtain ⟨a, vs, rfl, s, r⟩ := rx
    cases ev
    exact ⟨_, .inr (.inl ⟨vs, s, by rw [r.emp]⟩), q ι H (List.prefix_refl _) R TExt.rfl'⟩
  | ref n =>
    dsimp only [truM] at ev
    split at ev
    · rename_i xs e
      cases ev
      obtain ⟨a, vs, rfl, _, s, r⟩ := R.lst e rx
      exact ⟨_, .inl ⟨vs, SqL.of s, by rw [r.emp]⟩, q ι H (List.prefix_refl _) R TExt.rfl'⟩
    · rename_i xs e
      cases ev
      obtain ⟨a, vs, rfl, s, r⟩ := R.ro e rx
      exact ⟨_, .inl ⟨vs, s, by rw [r.emp]⟩, q ι H (List.prefix_refl _) R TExt.rfl'⟩
    · rename_i xs e
      cases ev
      obtain ⟨a, vs, rfl, _, s, r⟩ := R.dct e rx
      exact ⟨_, .inr (.inr ⟨vs, s, by rw [r.emp]⟩), q ι H (List.prefix_refl _) R TExt.rfl'⟩
    · cases ev
def xTru (f : Ev → M D) : Ev → M Bool := fun σ => bnd (f σ) truM
/-- a name, a call, a field .. as a test -/
theorem dt_val (ha : DE X a f) (he : ∀ whole, isTrue a X.env whole = (do let v ← whole; standAt a.pos; holding [v] (truthy v)) := by intro _; rfl) : DT X a (xTru f) := by
  refine PT.le (pt_truth ha he) fun τ H Q ⟨ι, σ, h, d, h', S, ev, q⟩ => ?_
  obtain ⟨x, h1, e1, ev⟩ := bnd_some ev
  exact ⟨ι, σ, h, x, h1, S, e1, fun ι1 v1 H1 p R r t => truM_ok R r ev (q.step p t)⟩

/-! ### and, or, not -/
variable {tf tg : Ev → M Bool} {rest : List Expr}
theorem dw_and1 (ha : DT X a tf) : DW X (.BoolOp .And [a] pos) tf := pw_and1 ha
theorem dw_or1 (ha : DT X a tf) : DW X (.BoolOp .Or [a] pos) tf := pw_or1 ha
def xAndT (f g : Ev → M Bool) : Ev → M Bool := fun σ => bnd (f σ) fun b => if b = true then g σ else ret false
def xOrT (f g : Ev → M Bool) : Ev → M Bool := fun σ => bnd (f σ) fun b => if b = true then ret true else g σ
def xNotT (f : Ev → M Bool) : Ev → M Bool := fun σ => bnd (f σ) fun b => ret (!b)
theorem dw_and (ha : DT X a tf) (hb : DW X (.BoolOp .And (b :: rest) pos) tg) : DW X (.BoolOp .And (a :: b :: rest) pos) (xAndT tf tg) := by
  refine PW.le (pw_and ha hb) fun τ H Q ⟨ι, σ, h, d, h', S, ev, q⟩ => ?_
  obtain ⟨x, h1, e1, ev⟩ := bnd_some ev
  refine ⟨ι, σ, h, x, h1, S, e1, fun ι1 H1 p R t => ?_⟩
  cases x with
  | true => exact ⟨ι1, σ, h1, d, h', S.step p R t, ev, q.step p t⟩
  | false => cases ev; exact q ι1 H1 p R t
theorem dw_or (ha : DT X a tf) (hb : DW X (.BoolOp .Or (b :: rest) pos) tg) : DW X (.BoolOp .Or (a :: b :: rest) pos) (xOrT tf tg) := by
  refine PW.le (pw_or ha hb) fun τ H Q ⟨ι, σ, h, d, h', S, ev, q⟩ => ?_
  obtain ⟨x, h1, e1, ev⟩ := bnd_some ev
  refine ⟨ι, σ, h, x, h1, S, e1, fun ι1 H1 p R t => ?_⟩
  cases x with
  | false => exact ⟨ι1, σ, h1, d, h', S.step p R t, ev, q.step p t⟩
  | true => cases ev; exact q ι1 H1 p R t
theorem dt_w (h : DW X a tf) : DT X a tf := PW.pt h
theorem dt_not (ha : DT X a tf) : DT X (.UnaryOp .Not a pos) (xNotT tf) := by
  refine PT.le (pt_not ha) fun τ H Q ⟨ι, σ, h, d, h', S, ev, q⟩ => ?_
  obtain ⟨x, h1, e1, ev⟩ := bnd_some ev
  cases ev
  exact ⟨ι, σ, h, x, _, S, e1, fun ι1 H1 p R t => q ι1 H1 p R t⟩
/-- as values: bools alone -/
def xAndV (f g : Ev → M D) : Ev → M D := fun σ => bnd (f σ) fun x => bnd (isB x) fun b => if b = true then g σ else ret (.bl false)
def xOrV (f g : Ev → M D) : Ev → M D := fun σ => bnd (f σ) fun x => bnd (isB x) fun b => if b = true then ret (.bl true) else g σ
def xNotV (f : Ev → M D) : Ev → M D := fun σ => bnd (f σ) fun x => bnd (isB x) fun b => ret (.bl (!b))
theorem isB_some {x : D} {h h' : Hd} {b : Bool} (e : isB x h = some (b, h')) : x = .bl b ∧ h' = h := by
  cases x with
  | bl c => cases e; exact ⟨rfl, rfl⟩
  | _ => cases e
theorem RD.bl {K : PySem.W.Frag} {H : Hp} {ι : List Addr} {b : Bool} : RD K H ι (.bl b) (.bl b) := by unfold RD; rfl
theorem RD.int {K : PySem.W.Frag} {H : Hp} {ι : List Addr} {b : Int} : RD K H ι (.int b) (.int b) := by unfold RD; rfl
theorem RD.str {K : PySem.W.Frag} {H : Hp} {ι : List Addr} {b : String} : RD K H ι (.str b) (.str (Str.ofString b)) := by unfold RD; rfl
theorem RD.non {K : PySem.W.Frag} {H : Hp} {ι : List Addr} : RD K H ι .non .non := by unfold RD; rfl
theorem RD.bl_inv {K : PySem.W.Frag} {H : Hp} {ι : List Addr} {b : Bool} {v : V} (r : RD K H ι (.bl b) v) : v = .bl b := by unfold RD at r; exact r
theorem RD.int_inv {K : PySem.W.Frag} {H : Hp} {ι : List Addr} {b : Int} {v : V} (r : RD K H ι (.int b) v) : v = .int b := by unfold RD at r; exact r
theorem RD.str_inv {K : PySem.W.Frag} {H : Hp} {ι : List Addr} {b : String} {v : V} (r : RD K H ι (.str b) v) : v = .str (Str.ofString b) := by unfold RD at r; exact r
theorem RD.non_inv {K : PySem.W.Frag} {H : Hp} {ι : List Addr} {v : V} (r : RD K H ι .non v) : v = .non := by unfold RD at r; exact r
theorem RD.tup_inv {K : PySem.W.Frag} {H : Hp} {ι : List Addr} {xs : List D} {v : V} (r : RD K H ι (.tup xs) v) : ∃ a vs, v = .ref a ∧ SqT K H a vs ∧ RDs K H ι xs vs := by unfold RD at r; exact r
theorem RD.tup {K : PySem.W.Frag} {H : Hp} {ι : List Addr} {xs : List D} {a : Addr} {vs : List V} (s : SqT K H a vs) (r : RDs K H ι xs vs) : RD K H ι (.tup xs) (.ref a) := by unfold RD; exact ⟨a, vs, rfl, s, r⟩
theorem RD.ref {K : PySem.W.Frag} {H : Hp} {ι : List Addr} {n : Nat} {a : Addr} (e : ι[n]? = some a) : RD K H ι (.ref n) (.ref a) := by unfold RD; exact ⟨a, e, rfl⟩
theorem de_and1 {o : BoolOp} (ha : DE X a f) : DE X (.BoolOp o [a] pos) f := pe_one ha
theorem de_and (ha : DE X a f) (hb : DE X (.BoolOp .And (b :: rest) pos) g) : DE X (.BoolOp .And (a :: b :: rest) pos) (xAndV f g) := by
  refine PE.le (pe_and ha hb) fun τ H Q ⟨ι, σ, h, d, h', S, ev, q⟩ => ?_
  obtain ⟨x, h1, e1, ev⟩ := bnd_some ev
  obtain ⟨b, h2, e2, ev⟩ := bnd_some ev
  obtain ⟨rfl, rfl⟩ := isB_some e2
  refine ⟨ι, σ, h, _, _, S, e1, fun ι1 v1 H1 p R r t => ?_⟩
  obtain rfl := r.bl_inv
  refine ⟨b, rfl, ?_⟩
  cases b with
  | true => exact ⟨ι1, σ, _, d, h', S.step p R t, ev, q.step p t⟩
  | false => cases ev; exact q ι1 _ H1 p R RD.bl t
theorem de_or (ha : DE X a f) (hb : DE X (.BoolOp .Or (b :: rest) pos) g) : DE X (.BoolOp .Or (a :: b :: rest) pos) (xOrV f g) := by
  refine PE.le (pe_or ha hb) fun τ H Q ⟨ι, σ, h, d, h', S, ev, q⟩ => ?_
  obtain ⟨x, h1, e1, ev⟩ := bnd_some ev
  obtain ⟨b, h2, e2, ev⟩ := bnd_some ev
  obtain ⟨rfl, rfl⟩ := isB_some e2
  refine ⟨ι, σ, h, _, _, S, e1, fun ι1 v1 H1 p R r t => ?_⟩
  obtain rfl := r.bl_inv
  refine ⟨b, rfl, ?_⟩
  cases b with
  | false => exact ⟨ι1, σ, _, d, h', S.step p R t, ev, q.step p t⟩
  | true => cases ev; exact q ι1 _ H1 p R RD.bl t
theorem de_not (ha : DE X a f) : DE X (.UnaryOp .Not a pos) (xNotV f) := by
  refine PE.le (pe_not ha) fun τ H Q ⟨ι, σ, h, d, h', S, ev, q⟩ => ?_
  obtain ⟨x, h1, e1, ev⟩ := bnd_some ev
  obtain ⟨b, h2, e2, ev⟩ := bnd_some ev
  obtain ⟨rfl, rfl⟩ := isB_some e2
  cases ev
  refine ⟨ι, σ, h, _, _, S, e1, fun ι1 v1 H1 p R r t => ?_⟩
  obtain rfl := r.bl_inv
  exact ⟨b, rfl, q ι1 _ H1 p R RD.bl t⟩
/-- a if t else b -/
def xIf (t : Ev → M Bool) (f g : Ev → M D) : Ev → M D := fun σ => bnd (t σ) fun b => if b = true then f σ else g σ
theorem de_if (hc : DT X c tf) (ha : DE X a f) (hb : DE X b g) : DE X (.IfExp c a b pos) (xIf tf f g) := by
  refine PE.le (pe_ifExp hc ha hb) fun τ H Q ⟨ι, σ, h, d, h', S, ev, q⟩ => ?_
  obtain ⟨x, h1, e1, ev⟩ := bnd_some ev
  refine ⟨ι, σ, h, x, h1, S, e1, fun ι1 H1 p R t => ?_⟩
  cases x with
  | true => exact ⟨ι1, σ, h1, d, h', S.step p R t, ev, q.step p t⟩
  | false => exact ⟨ι1, σ, h1, d, h', S.step p R t, ev, q.step p t⟩

/-! ### argument lists, displays -/
def xNil : Ev → M (List D) := fun _ => ret []
def xCons (f : Ev → M D) (g : Ev → M (List D)) : Ev → M (List D) := fun σ => bnd (f σ) fun x => bnd (g σ) fun xs => ret (x :: xs)
variable {fs : Ev → M (List D)} {es : List Expr}
theorem da_nil : DA X [] xNil := PA.le pa_nil fun τ H Q ⟨ι, σ, h, d, h', S, ev, q⟩ => by
  cases ev
  exact q ι [] H (List.prefix_refl _) S.hp RDs.nil TExt.rfl'
theorem da_cons (ha : DE X e f) (hr : DA X es fs) (hs : starEach (e :: es) X.env = (false, eval e X.env) :: starEach es X.env := by rfl) : DA X (e :: es) (xCons f fs) := by
  refine PA.le (pa_cons ha hr hs) fun τ H Q ⟨ι, σ, h, d, h', S, ev, q⟩ => ?_
  obtain ⟨x, h1, e1, ev⟩ := bnd_some ev
  obtain ⟨xs, h2, e2, ev⟩ := bnd_some ev
  cases ev
  exact ⟨ι, σ, h, x, h1, S, e1, fun ι1 v1 H1 p R r t => ⟨ι1, σ, h1, xs, _, S.step p R t, e2, fun ι2 vs H2 p2 R2 rs t2 => q ι2 (v1 :: vs) H2 (p.trans p2) R2 (RDs.cons (r.mono p2 t2) rs) (t.trans t2)⟩⟩
def lay (c : Cell) : M D := fun h => some (.ref h.length, h ++ [c])
def xTup (g : Ev → M (List D)) : Ev → M D := fun σ => bnd (g σ) fun xs h => if xs.length ≤ LIM then some (.tup xs, h) else none
def xLst (g : Ev → M (List D)) : Ev → M D := fun σ => bnd (g σ) fun xs h => if xs.length ≤ LIM then some (.ref h.length, h ++ [.lst xs]) else none
theorem SqT.new {K : PySem.W.Frag} {H : Hp} {p : Addr} {vs : List V} : SqT K (upd H p (.tup vs)) p vs := SqT.of upd_same
/-- a new tuple is laid -/
theorem Pst.tup {K : PySem.W.Frag} {ι : List Addr} {h : Hd} {H : Hp} {xs : List D} {vs : List V} {Q : VK} (R : RelH K ι h H) (rs : RDs K H ι xs vs) (q : Pst K ι H (.tup xs) h Q) : ∀ p, H p = none → Q (.ref p) (upd H p (.tup vs)) := fun p hp =>
  q ι (.ref p) _ (List.prefix_refl _) (R.fresh hp) (RD.tup SqT.new (rs.mono (List.prefix_refl _) (TExt.upd hp))) (TExt.upd hp)
theorem Pst.lst {K : PySem.W.Frag} {ι : List Addr} {h : Hd} {H : Hp} {xs : List D} {vs : List V} {Q : VK} (R : RelH K ι h H) (rs : RDs K H ι xs vs) (q : Pst K ι H (.ref h.length) (h ++ [.lst xs]) Q) : ∀ p, H p = none → Q (.ref p) (upd H p (.lst vs)) := fun p hp =>
  q (ι ++ [p]) (.ref p) _ ⟨[p], rfl⟩ (R.alloc hp ⟨vs, upd_same, rs.mono ⟨[p], rfl⟩ (TExt.upd hp)⟩) (RD.ref (by rw [← R.len]; simp)) (TExt.upd hp)
theorem de_tup {k1 : Nat} (h : DA X es fs) : DE X (.Tuple es k1 pos) (xTup fs) := by
  refine PE.le (pe_tup h) fun τ H Q ⟨ι, σ, h, d, h', S, ev, q⟩ => ?_
  obtain ⟨xs, h1, e1, ev⟩ := bnd_some ev
  split at ev
  · rename_i hz
    cases ev
    exact ⟨ι, σ, h, xs, _, S, e1, fun ι1 vs H1 p R rs t => ⟨by rw [← rs.length]; exact lim_line hz, (q.step p t).tup R rs⟩⟩
  · cases ev
theorem de_lst (h : DA X es fs) : DE X (.List es pos) (xLst fs) := by
  refine PE.le (pe_lst h) fun τ H Q ⟨ι, σ, h, d, h', S, ev, q⟩ => ?_
  obtain ⟨xs, h1, e1, ev⟩ := bnd_some ev
  split at ev
  · rename_i hz
    cases ev
    exact ⟨ι, σ, h, xs, _, S, e1, fun ι1 vs H1 p R rs t => ⟨by rw [← rs.length]; exact lim_line hz, (q.step p t).lst R rs⟩⟩
  · cases ev
end
end Dt

set_option Elab.async false
set_option linter.all false
set_option autoImplicit false
set_option maxRecDepth 100000
/-! DtC: operators, comparisons, places, slices. -/
namespace Dt
open PySem PySem.Spec PyProof.Rows L2
/-- room for what the built-ins do -/
def Roomy (X : Cx) : Prop := X.A.units + 100 < cLine
theorem roomy {X : Cx} {k : Nat} (hr : Room k X.A) : Roomy X := by have := hr.un; unfold Roomy; omega
theorem Roomy.u1 {X : Cx} (h : Roomy X) : X.A.units + 1 < cLine := by unfold Roomy at h; omega
theorem Roomy.u64 {X : Cx} (h : Roomy X) : X.A.units + 64 < cLine := by unfold Roomy at h; omega
theorem Roomy.u65 {X : Cx} (h : Roomy X) : X.A.units + 65 < cLine := by unfold Roomy at h; omega

section
variable {K : PySem.W.Frag} {H : Hp} {ι : List Addr} {h : Hd} {Q : VK} {d : D} {v : V}
theorem Pst.now (q : Pst K ι H d h Q) (R : RelH K ι h H) (r : RD K H ι d v) : Q v H := q ι v H (List.prefix_refl _) R r TExt.rfl'
end

theorem RDs.nil_l {K : PySem.W.Frag} {H : Hp} {ι : List Addr} {xs : List D} (r : RDs K H ι xs []) : xs = [] := List.length_eq_zero_iff.mp r.length

/-! ### arithmetic -/
def addM (x y : D) : M D := fun h => match x, y with
  | .int i, .int j => some (.int (i + j), h)
  | .tup xs, .tup ys => if xs.length + ys.length ≤ LIM then some (.tup (xs ++ ys), h) else none
  | .ref a, .ref b => match h[a]?, h[b]? with
    | some (.lst xs), some (.lst ys) => if xs.length + ys.length ≤ LIM then some (.ref h.length, h ++ [.lst (xs ++ ys)]) else none
    | _, _ => none
  | _, _ => none
def subM (x y : D) : M D := fun h => match x, y with
  | .int i, .int j => some (.int (i - j), h)
  | _, _ => none
def mulM (x y : D) : M D := fun h => match x, y with
  | .int i, .int j => if (-18446744073709551616 < i ∧ i < 18446744073709551616) ∨ (-18446744073709551616 < j ∧ j < 18446744073709551616) then some (.int (i * j), h) else none
  | _, _ => none
def fdivM (x y : D) : M D := fun h => match x, y with
  | .int i, .int j => if 0 < j ∧ j < 1073741824 then some (.int (i / j), h) else none
  | _, _ => none
def modM (x y : D) : M D := fun h => match x, y with
  | .int i, .int j => if 0 < j then some (.int (i % j), h) else none
  | _, _ => none
def powM (x y : D) : M D := fun h => match x, y with
  | .int i, .int j => if 0 ≤ j ∧ j ≤ 1000000 ∧ i.natAbs < 18446744073709551616 then some (.int (i ^ j.toNat), h) else none
  | _, _ => none
def negM (x : D) : M D := fun h => match x with
  | .int i => some (.int (-i), h)
  | _ => none
section
variable {X : Cx}
theorem o_add : OpD X (binaryOp .Add) addM := by
  intro ι h H x y d h' vx vy Q R rx ry ev q
  cases x <;> cases y <;> dsimp only [addM] at ev <;> try cases ev
  · -- ints
    obtain rfl := rx.int_inv
    obtain rfl := ry.int_inv
    exact ⟨_, op_add, _, _, rfl, rfl, q.now R RD.int⟩
  · obtain ⟨a, vs, rfl, s1, r1⟩ := rx.tup_inv
    obtain ⟨b, ws, rfl, s2, r2⟩ := ry.tup_inv
    split at ev
    · rename_i hz
      cases ev
      refine ⟨_, op_catA, a, b, vs, ws, rfl, rfl, s1, s2, by rw [← r1.length, ← r2.length]; exact lim_line hz, fun e => ?_, fun _ e => ?_, fun _ _ => ?_⟩
      · subst e
        refine q.now R (RD.tup s2 ?_)
        rw [r1.nil_l]
        exact r2
      · subst e
        refine q.now R (RD.tup s1 ?_)
        rw [r2.nil_l, List.append_nil]
        exact r1
      · exact q.tup R (r1.append r2)
    · cases ev
  · split at ev
    · rename_i xs ys e1 e2
      split at ev
      · rename_i hz
        cases ev
        obtain ⟨a, vs, rfl, _, s1, r1⟩ := R.lst e1 rx
        obtain ⟨b, ws, rfl, _, s2, r2⟩ := R.lst e2 ry
        exact ⟨_, op_cat, a, b, vs, ws, rfl, rfl, s1, s2, by rw [← r1.length, ← r2.length]; exact lim_line hz, q.lst R (r1.append r2)⟩
      · cases ev
    · cases ev
theorem o_sub : OpD X (binaryOp .Sub) subM := by
  intro ι h H x y d h' vx vy Q R rx ry ev q
  cases x <;> cases y <;> dsimp only [subM] at ev <;> try cases ev
  obtain rfl := rx.int_inv
  obtain rfl := ry.int_inv
  exact ⟨_, op_sub, _, _, rfl, rfl, q.now R RD.int⟩
theorem o_mul : OpD X (binaryOp .Mult) mulM := by
  intro ι h H x y d h' vx vy Q R rx ry ev q
  cases x <;> cases y <;> dsimp only [mulM] at ev <;> try cases ev
  obtain rfl := rx.int_inv
  obtain rfl := ry.int_inv
  split at ev
  · rename_i hz
    cases ev
    exact ⟨_, op_mul, _, _, rfl, rfl, hz, q.now R RD.int⟩
  · cases ev
theorem o_fdiv : OpD X (binaryOp .FloorDiv) fdivM := by
  intro ι h H x y d h' vx vy Q R rx ry ev q
  cases x <;> cases y <;> dsimp only [fdivM] at ev <;> try cases ev
  obtain rfl := rx.int_inv
  obtain rfl := ry.int_inv
  split at ev
  · rename_i hz
    cases ev
    exact ⟨_, op_fdiv, _, _, rfl, rfl, hz, q.now R RD.int⟩
  · cases ev
theorem o_mod : OpD X (binaryOp .Mod) modM := by
  intro ι h H x y d h' vx vy Q R rx ry ev q
  cases x <;> cases y <;> dsimp only [modM] at ev <;> try cases ev
  obtain rfl := rx.int_inv
  obtain rfl := ry.int_inv
  split at ev
  · rename_i hz
    cases ev
    exact ⟨_, op_mod, _, _, rfl, rfl, hz, q.now R RD.int⟩
  · cases ev
theorem o_pow : OpD X (binaryOp .Pow) powM := by
  intro ι h H x y d h' vx vy Q R rx ry ev q
  cases x <;> cases y <;> dsimp only [powM] at ev <;> try cases ev
  obtain rfl := rx.int_inv
  obtain rfl := ry.int_inv
  split at ev
  · rename_i hz
    cases ev
    exact ⟨_, op_pow, _, _, rfl, rfl, hz, q.now R RD.int⟩
  · cases ev
theorem o_neg : UnD X (unaryOp .USub) negM := by
  intro ι h H x d h' vx Q R rx ev q
  cases x <;> dsimp only [negM] at ev <;> try cases ev
  obtain rfl := rx.int_inv
  exact ⟨_, un_neg, _, rfl, q.now R RD.int⟩

/-! ### order of ints -/
def cmpM (p : Int → Int → Bool) (x y : D) : M D := fun h => match x, y with
  | .int i, .int j => some (.bl (p i j), h)
  | _, _ => none
abbrev ltM : D → D → M D := cmpM fun i j => decide (i < j)
abbrev leM : D → D → M D := cmpM fun i j => decide (i ≤ j)
abbrev gtM : D → D → M D := cmpM fun i j => decide (j < i)
abbrev geM : D → D → M D := cmpM fun i j => decide (j ≤ i)
theorem o_cmp {o : CmpOp} {p : Int → Int → Bool} (ho : OpR X (compareOp o) (rI0 fun i j => .bl (p i j))) : OpD X (compareOp o) (cmpM p) := by
  intro ι h H x y d h' vx vy Q R rx ry ev q
  cases x <;> cases y <;> dsimp only [cmpM] at ev <;> try cases ev
  obtain rfl := rx.int_inv
  obtain rfl := ry.int_inv
  exact ⟨_, ho, _, _, rfl, rfl, q.now R RD.bl⟩
theorem o_lt : OpD X (compareOp .Lt) ltM := o_cmp op_lt
theorem o_le : OpD X (compareOp .LtE) leM := o_cmp op_le
theorem o_gt : OpD X (compareOp .Gt) gtM := o_cmp op_gt
theorem o_ge : OpD X (compareOp .GtE) geM := o_cmp op_ge

/-! ### is -/
def isNonD : D → Bool
  | .non => true
  | _ => false
def isM (x y : D) : M D := fun h => match y with
  | .non => some (.bl (isNonD x), h)
  | .bl b => match x with
    | .bl a => some (.bl (a == b), h)
    | .non => some (.bl false, h)
    | _ => none
  | _ => none
def isntM (x y : D) : M D := fun h => match y with
  | .non => some (.bl (!isNonD x), h)
  | .bl b => match x with
    | .bl a => some (.bl (!(a == b)), h)
    | .non => some (.bl true, h)
    | _ => none
  | _ => none
theorem op_none_bl : OpR X (compareOp .Is) (fun x y H Q => x = .non ∧ (∃ b, y = .bl b) ∧ Q (.bl false) H) := by
  intro pins s σ H x y v u Q I rx ry h
  obtain ⟨rfl, ⟨b, rfl⟩, q⟩ := h
  cases (show v = Value.none from rx)
  cases (show u = Value.bool b from ry)
  exact wpAny_is_other rfl (fun z => nomatch z) ⟨.bl false, H, I, rfl, q⟩
theorem op_none_nbl : OpR X (compareOp .IsNot) (fun x y H Q => x = .non ∧ (∃ b, y = .bl b) ∧ Q (.bl true) H) := by
  intro pins s σ H x y v u Q I rx ry h
  obtain ⟨rfl, ⟨b, rfl⟩, q⟩ := h
  cases (show v = Value.none from rx)
  cases (show u = Value.bool b from ry)
  exact wpAny_isNot_other rfl (fun z => nomatch z) ⟨.bl true, H, I, rfl, q⟩
theorem RD.isNon {K : PySem.W.Frag} {H : Hp} {ι : List Addr} {x : D} {v : V} (r : RD K H ι x v) : decide (v = .non) = isNonD x := by
  cases x with
  | non => rw [r.non_inv]; rfl
  | bl b => rw [r.bl_inv]; rfl
  | int b => rw [r.int_inv]; rfl
  | str b => rw [r.str_inv]; rfl
  | tup xs => obtain ⟨a, vs, rfl, _⟩ := r.tup_inv; rfl
  | ref n => unfold RD at r; obtain ⟨a, _, rfl⟩ := r; rfl
theorem o_is : OpD X (compareOp .Is) isM := by
  intro ι h H x y d h' vx vy Q R rx ry ev q
  cases y <;> dsimp only [isM] at ev <;> try cases ev
  · obtain rfl := ry.non_inv
    refine ⟨_, op_isN, rfl, q.now R ?_⟩
    rw [rx.isNon]
    exact RD.bl
  · obtain rfl := ry.bl_inv
    cases x <;> dsimp only at ev <;> try cases ev
    · obtain rfl := rx.non_inv
      exact ⟨_, op_none_bl, rfl, ⟨_, rfl⟩, q.now R RD.bl⟩
    · obtain rfl := rx.bl_inv
      refine ⟨_, op_isBl, _, _, rfl, rfl, q.now R ?_⟩
      rw [← Bool.beq_eq_decide_eq]
      exact RD.bl
theorem o_isnt : OpD X (compareOp .IsNot) isntM := by
  intro ι h H x y d h' vx vy Q R rx ry ev q
  cases y <;> dsimp only [isntM] at ev <;> try cases ev
  · obtain rfl := ry.non_inv
    refine ⟨_, op_notN, rfl, q.now R ?_⟩
    rw [rx.isNon]
    exact RD.bl
  · obtain rfl := ry.bl_inv
    cases x <;> dsimp only at ev <;> try cases ev
    · obtain rfl := rx.non_inv
      exact ⟨_, op_none_nbl, rfl, ⟨_, rfl⟩, q.now R RD.bl⟩
    · obtain rfl := rx.bl_inv
      refine ⟨_, op_notBl, _, _, rfl, rfl, q.now R ?_⟩
      rw [← Bool.beq_eq_decide_eq]
      exact RD.bl
end

/-! ### == by data -/
mutual
/-- a value as data, lists read off the cells -/
def toPy (h : Hd) : Nat → D → Option PyData
  | 0, _ => none
  | n + 1, x => match x with
    | .non => some .none
    | .bl b => some (.bool b)
    | .int i => some (.int i)
    | .str z => some (.str (Str.ofString z))
    | .tup xs => (toPys h n xs).map .tuple
    | .ref k => match h[k]? with
      | some (.lst xs) => (toPys h n xs).map .list
      | _ => none
def toPys (h : Hd) : Nat → List D → Option (List PyData)
  | 0, _ => none
  | n + 1, xs => match xs with
    | [] => some []
    | x :: xs => match toPy h n x, toPys h n xs with
      | some p, some ps => some (p :: ps)
      | _, _ => none
end
section
variable {K : PySem.W.Frag} {H : Hp} {ι : List Addr} {h : Hd}
theorem toPy_ok (R : RelH K ι h H) : ∀ (n : Nat), (∀ (x : D) (v : V) (p : PyData), RD K H ι x v → toPy h n x = some p → Dp K H v p) ∧ (∀ (xs : List D) (vs : List V) (ps : List PyData), RDs K H ι xs vs → toPys h n xs = some ps → DpAll K H vs ps)
  | 0 => ⟨fun x v p _ e => by simp [toPy] at e, fun x v p _ e => by simp [toPys] at e⟩
  | n + 1 => by
    obtain ⟨i1, i2⟩ := toPy_ok R n
    refine ⟨fun x v p r e => ?_, fun xs vs ps r e => ?_⟩
    · cases x with
      | non => simp only [toPy] at e; cases e; rw [r.non_inv]; exact .non
      | bl b => simp only [toPy] at e; cases e; rw [r.bl_inv]; exact .bl b
      | int b => simp only [toPy] at e; cases e; rw [r.int_inv]; exact .int b
      | str b => simp only [toPy] at e; cases e; rw [r.str_inv]; exact .str _
      | tup xs =>
        simp only [toPy] at e
        obtain ⟨ps, e1, rfl⟩ := Option.map_eq_some_iff.mp e
        obtain ⟨a, vs, rfl, s, rs⟩ := r.tup_inv
        exact .tup s (i2 xs vs ps rs e1)
      | ref k =>
        simp only [toPy] at e
        split at e
        · rename_i xs e0
          obtain ⟨ps, e1, rfl⟩ := Option.map_eq_some_iff.mp e
          obtain ⟨a, vs, rfl, _, s, rs⟩ := R.lst e0 r
          exact .lst (SqL.of s) (i2 xs vs ps rs e1)
        · cases e
    · cases xs with
      | nil => simp only [toPys] at e; cases e; rw [r.inv0]; exact .nil
      | cons x xs =>
        simp only [toPys] at e
        obtain ⟨v, w, rfl, r1, r2⟩ := r.inv
        split at e
        · rename_i p ps e1 e2
          cases e
          exact .cons (i1 x v p r1 e1) (i2 xs w ps r2 e2)
        · cases e
end
/-- enough turns for all that is laid -/
abbrev DEEP : Nat := 400
def eqM (x y : D) : M D := fun h => match toPy h DEEP x, toPy h DEEP y with
  | some p, some q => if SeqAt.shaped p = true ∧ SeqAt.shaped q = true then some (.bl (PyData.eqv p q), h) else none
  | _, _ => none
def neM (x y : D) : M D := fun h => match toPy h DEEP x, toPy h DEEP y with
  | some p, some q => if SeqAt.shaped p = true ∧ SeqAt.shaped q = true then some (.bl (!PyData.eqv p q), h) else none
  | _, _ => none
section
variable {X : Cx}
theorem o_eq (hu : Roomy X) : OpD X (compareOp .Eq) eqM := by
  intro ι h H x y d h' vx vy Q R rx ry ev q
  unfold eqM at ev
  split at ev
  · rename_i p p2 e1 e2
    split at ev
    · rename_i hs
      cases ev
      exact ⟨_, op_eqD hu.u64, p, p2, (toPy_ok R _).1 x vx p rx e1, (toPy_ok R _).1 y vy p2 ry e2, hs.1, hs.2, q.now R RD.bl⟩
    · cases ev
  · cases ev
theorem o_ne (hu : Roomy X) : OpD X (compareOp .NotEq) neM := by
  intro ι h H x y d h' vx vy Q R rx ry ev q
  unfold neM at ev
  split at ev
  · rename_i p p2 e1 e2
    split at ev
    · rename_i hs
      cases ev
      exact ⟨_, op_neD hu.u64, p, p2, (toPy_ok R _).1 x vx p rx e1, (toPy_ok R _).1 y vy p2 ry e2, hs.1, hs.2, q.now R RD.bl⟩
    · cases ev
  · cases ev
end

/-! ### in -/
def keyOf : D → Option Key
  | .int i => some (.inl i)
  | .str x => some (.inr (Str.ofString x))
  | _ => none
def keysOf : List D → Option (List Key)
  | [] => some []
  | x :: xs => match keyOf x, keysOf xs with
    | some k, some ks => some (k :: ks)
    | _, _ => none
def look {κ : Type} [DecidableEq κ] (k : κ) : List (κ × D) → Option D
  | [] => none
  | p :: r => if p.1 = k then some p.2 else look k r
def flatD : D → Bool
  | .non => true
  | .bl _ => true
  | .int _ => true
  | .str _ => true
  | _ => false
/-- == of flat values -/
def eqF : D → D → Bool
  | .non, .non => true
  | .bl a, .bl b => a == b
  | .bl a, .int b => (if a then 1 else 0) == b
  | .int a, .bl b => a == (if b then 1 else 0)
  | .int a, .int b => a == b
  | .str a, .str b => a == b
  | _, _ => false
section
variable {K : PySem.W.Frag} {H : Hp} {ι : List Addr}
theorem keyOf_ok {x : D} {k : Key} {v : V} (e : keyOf x = some k) (r : RD K H ι x v) : v = kV k := by
  cases x <;> simp only [keyOf] at e <;> cases e
  · exact r.int_inv
  · exact r.str_inv
theorem keysOf_ok : ∀ {xs : List D} {ks : List Key} {vs : List V}, keysOf xs = some ks → RDs K H ι xs vs → vs = ks.map kV
  | [], ks, vs, e, r => by simp only [keysOf] at e; cases e; exact r.inv0
  | x :: xs, ks, vs, e, r => by
    simp only [keysOf] at e
    obtain ⟨v, w, rfl, r1, r2⟩ := r.inv
    split at e
    · rename_i k ks' e1 e2
      cases e
      rw [keyOf_ok e1 r1, keysOf_ok e2 r2]; rfl
    · cases e
theorem look_ok {κ : Type} [DecidableEq κ] {k : κ} : ∀ {kvs : List (κ × D)} {vs : List (κ × V)}, RKs K H ι kvs vs → (∀ d, look k kvs = some d → ∃ v, valV vs k = some v ∧ RD K H ι d v) ∧ (look k kvs = none → valV vs k = none)
  | [], vs, r => by
    have : vs = [] := r
    subst this
    exact ⟨fun d e => by simp [look] at e, fun _ => rfl⟩
  | p :: kvs, vs, r => by
    obtain ⟨v, w, rfl, r1, r2⟩ := r
    obtain ⟨i1, i2⟩ := look_ok (k := k) r2
    by_cases hk : p.1 = k
    · refine ⟨fun d e => ?_, fun e => ?_⟩
      · simp only [look, if_pos hk] at e; cases e
        exact ⟨v, valV_pos (p := (p.1, v)) hk, r1⟩
      · simp only [look, if_pos hk] at e; cases e
    · refine ⟨fun d e => ?_, fun e => ?_⟩
      · simp only [look, if_neg hk] at e
        obtain ⟨u, h1, h2⟩ := i1 d e
        exact ⟨u, by rw [valV_neg (p := (p.1, v)) hk]; exact h1, h2⟩
      · simp only [look, if_neg hk] at e
        rw [valV_neg (p := (p.1, v)) hk]; exact i2 e
theorem look_some {κ : Type} [DecidableEq κ] {k : κ} {kvs : List (κ × D)} {vs : List (κ × V)} (r : RKs K H ι kvs vs) : (look k kvs).isSome = (valV vs k).isSome := by
  obtain ⟨i1, i2⟩ := look_ok (k := k) r
  cases e : look k kvs with
  | none => rw [i2 e]; rfl
  | some d => obtain ⟨v, h1, _⟩ := i1 d e; rw [h1]; rfl
theorem flatD_ok {x : D} {v : V} (f : flatD x = true) (r : RD K H ι x v) : flatV v = true := by
  cases x <;> simp only [flatD] at f <;> try cases f
  · rw [r.non_inv]; rfl
  · rw [r.bl_inv]; rfl
  · rw [r.int_inv]; rfl
  · rw [r.str_inv]; rfl
theorem ofString_beq (s t : String) : (Str.ofString s == Str.ofString t) = (s == t) := by
  rw [Bool.eq_iff_iff, beq_iff_eq, beq_iff_eq]; exact ofString_eq_iff
theorem eqF_ok {x y : D} {v w : V} (f : flatD x = true) (g : flatD y = true) (r : RD K H ι x v) (s : RD K H ι y w) : eqV v w = eqF x y := by
  cases x <;> simp only [flatD] at f <;> try cases f
  all_goals cases y <;> simp only [flatD] at g <;> try cases g
  all_goals first | (rw [r.non_inv]) | (rw [r.bl_inv]) | (rw [r.int_inv]) | (rw [r.str_inv])
  all_goals first | (rw [s.non_inv]) | (rw [s.bl_inv]) | (rw [s.int_inv]) | (rw [s.str_inv])
  all_goals first | rfl | exact ofString_beq _ _
theorem allFlat : ∀ {xs : List D} {vs : List V}, RDs K H ι xs vs → xs.all flatD = true → vs.all flatV = true
  | [], vs, r, _ => by rw [r.inv0]; rfl
  | x :: xs, vs, r, f => by
    obtain ⟨v, w, rfl, r1, r2⟩ := r.inv
    rw [List.all_cons, Bool.and_eq_true] at f
    rw [List.all_cons, flatD_ok f.1 r1, allFlat r2 f.2]; rfl
theorem inF {x : D} {v : V} (fx : flatD x = true) (rx : RD K H ι x v) : ∀ {xs : List D} {vs : List V}, RDs K H ι xs vs → xs.all flatD = true → inV v vs = xs.any fun z => eqF z x
  | [], vs, r, _ => by rw [r.inv0]; rfl
  | y :: xs, vs, r, f => by
    obtain ⟨w, ws, rfl, r1, r2⟩ := r.inv
    rw [List.all_cons, Bool.and_eq_true] at f
    have ih := inF fx rx r2 f.2
    unfold inV at ih ⊢
    rw [List.any_cons, List.any_cons, ih, eqF_ok f.1 fx r1 rx]
end
/-- the items of a list or a tuple -/
def itemsOf (h : Hd) : D → Option (List D)
  | .tup xs => some xs
  | .ref n => match h[n]? with
    | some (.lst xs) => some xs
    | some (.ro xs) => some xs
    | _ => none
  | _ => none
def inB (h : Hd) (x y : D) : Option Bool := match itemsOf h y with
  | some xs => if flatD x = true ∧ xs.all flatD = true then some (xs.any fun z => eqF z x) else match y with
    | .ref _ => match toPy h DEEP x, toPy h DEEP y with
      | some d, some (.list ds) => if SeqAt.shaped d = true ∧ SeqAt.shaped (.list ds) = true then some (ds.any fun z => PyData.eqv z d) else none
      | _, _ => none
    | _ => none
  | none => match y with
    | .ref n => match h[n]? with
      | some (.dct kvs) => match keyOf x with
        | some k => some (look k kvs).isSome
        | none => none
      | _ => none
    | _ => none
def inM (x y : D) : M D := fun h => match inB h x y with
  | some b => some (.bl b, h)
  | none => none
def ninM (x y : D) : M D := fun h => match inB h x y with
  | some b => some (.bl (!b), h)
  | none => none
section
variable {X : Cx}
theorem itemsOf_ok {K : PySem.W.Frag} {ι : List Addr} {h : Hd} {H : Hp} {y : D} {v : V} {xs : List D} (R : RelH K ι h H) (e : itemsOf h y = some xs) (r : RD K H ι y v) : ∃ a vs, v = .ref a ∧ (SqL K H a vs ∨ SqT K H a vs) ∧ RDs K H ι xs vs := by
  cases y <;> simp only [itemsOf] at e <;> try cases e
  · obtain ⟨a, vs, rfl, s, rs⟩ := r.tup_inv
    exact ⟨a, vs, rfl, .inr s, rs⟩
  · split at e
    · rename_i e0
      cases e
      obtain ⟨a, vs, rfl, _, s, rs⟩ := R.lst e0 r
      exact ⟨a, vs, rfl, .inl (SqL.of s), rs⟩
    · rename_i e0
      cases e
      obtain ⟨a, vs, rfl, s, rs⟩ := R.ro e0 r
      exact ⟨a, vs, rfl, .inl s, rs⟩
    · cases e
theorem op_inDict (hu : Roomy X) : OpR X (compareOp .In) (fun y x H Q => ∃ a o, x = .ref a ∧ DGet H a y o ∧ Q (.bl o.isSome) H) := by
  intro pins s σ H x y v u Q I rx ry h
  obtain ⟨a, o, rfl, g, q⟩ := h
  obtain rfl : u = Value.ref a := ry
  exact d_in hu.u1 I g rx fun s3 I3 => ⟨.bl o.isSome, H, I3, rfl, q⟩
theorem op_ninDict (hu : Roomy X) : OpR X (compareOp .NotIn) (fun y x H Q => ∃ a o, x = .ref a ∧ DGet H a y o ∧ Q (.bl (!o.isSome)) H) := by
  intro pins s σ H x y v u Q I rx ry h
  obtain ⟨a, o, rfl, g, q⟩ := h
  obtain rfl : u = Value.ref a := ry
  exact d_notIn hu.u1 I g rx fun s3 I3 => ⟨.bl (!o.isSome), H, I3, rfl, q⟩
theorem inB_ok (hu : Roomy X) {ι : List Addr} {h : Hd} {H : Hp} {x y : D} {b : Bool} {vx vy : V} (R : RelH X.K ι h H) (rx : RD X.K H ι x vx) (ry : RD X.K H ι y vy) (ev : inB h x y = some b) :
    (∃ r, OpR X (compareOp .In) r ∧ ∀ Q : VK, Q (.bl b) H → r vx vy H Q) ∧ (∃ r, OpR X (compareOp .NotIn) r ∧ ∀ Q : VK, Q (.bl (!b)) H → r vx vy H Q) := by
  unfold inB at ev
  split at ev
  · rename_i xs e0
    obtain ⟨a, vs, rfl, s, rs⟩ := itemsOf_ok R e0 ry
    split at ev
    · rename_i hf
      cases ev
      have e1 := inF hf.1 rx rs hf.2
      refine ⟨⟨_, op_in_seq, fun Q q => ⟨a, vs, rfl, s, flatD_ok hf.1 rx, allFlat rs hf.2, ?_⟩⟩, ⟨_, op_notIn_seq, fun Q q => ⟨a, vs, rfl, s, flatD_ok hf.1 rx, allFlat rs hf.2, ?_⟩⟩⟩
      · rw [if_neg Bool.false_ne_true, e1]; exact q
      · rw [if_pos rfl, e1]; exact q
    · split at ev
      · rename_i n
        split at ev
        · rename_i d ds e1 e2
          split at ev
          · rename_i hs
            cases ev
            have q1 := (toPy_ok R _).1 x vx d rx e1
            have q2 := (toPy_ok R _).1 (.ref n) _ _ ry e2
            exact ⟨⟨_, op_inD hu.u65, fun Q q => ⟨d, ds, q1, q2, hs.1, hs.2, q⟩⟩, ⟨_, op_notInD hu.u65, fun Q q => ⟨d, ds, q1, q2, hs.1, hs.2, q⟩⟩⟩
          · cases ev
        · cases ev
      · cases ev
  · split at ev
    · rename_i n _
      split at ev
      · rename_i kvs e1
        split at ev
        · rename_i k e2
          cases ev
          obtain ⟨a, vs, rfl, _, s, rs⟩ := R.dct e1 ry
          obtain rfl := keyOf_ok e2 rx
          have e3 := look_some (k := k) rs
          exact ⟨⟨_, op_inDict hu, fun Q q => ⟨a, _, rfl, DGet.k s, by rw [← e3]; exact q⟩⟩, ⟨_, op_ninDict hu, fun Q q => ⟨a, _, rfl, DGet.k s, by rw [← e3]; exact q⟩⟩⟩
        · cases ev
      · cases ev
    · cases ev
theorem o_in (hu : Roomy X) : OpD X (compareOp .In) inM := by
  intro ι h H x y d h' vx vy Q R rx ry ev q
  unfold inM at ev
  split at ev
  · rename_i b e
    cases ev
    obtain ⟨⟨r, h1, h2⟩, _⟩ := inB_ok hu R rx ry e
    exact ⟨r, h1, h2 Q (q.now R RD.bl)⟩
  · cases ev
theorem o_nin (hu : Roomy X) : OpD X (compareOp .NotIn) ninM := by
  intro ι h H x y d h' vx vy Q R rx ry ev q
  unfold ninM at ev
  split at ev
  · rename_i b e
    cases ev
    obtain ⟨_, ⟨r, h1, h2⟩⟩ := inB_ok hu R rx ry e
    exact ⟨r, h1, h2 Q (q.now R RD.bl)⟩
  · cases ev
end
end Dt

set_option Elab.async false
set_option linter.all false
set_option autoImplicit false
set_option maxRecDepth 100000
/-! DtD: places, slices, statements, targets, loops, comprehensions. -/
namespace Dt
open PySem PySem.Spec PyProof.Rows L2

/-! ### x[i] -/
theorem RDs.atI {K : PySem.W.Frag} {H : Hp} {ι : List Addr} {xs : List D} {vs : List V} {i : Int} {d : D} (r : RDs K H ι xs vs) (e : L2.atI xs i = some d) : ∃ v, L2.atI vs i = some v ∧ RD K H ι d v := by
  unfold L2.atI at e ⊢
  rw [← r.length]
  cases q : ixN xs.length i with
  | none => rw [q] at e; cases e
  | some j =>
    rw [q] at e
    exact r.get e
def ixM (x i : D) : M D := fun h => match itemsOf h x with
  | some xs => match i with
    | .int k => match L2.atI xs k with
      | some d => some (d, h)
      | none => none
    | _ => none
  | none => match x with
    | .ref n => match h[n]? with
      | some (.dct kvs) => match keyOf i with
        | some k => match look k kvs with
          | some d => some (d, h)
          | none => none
        | none => none
      | _ => none
    | _ => none
section
variable {X : Cx} {a b e : Expr} {f g : Ev → M D} {pos p2 : Pos}
theorem de_ix (hu : Roomy X) (ha : DE X a f) (hb : DE X b g) (hs : PlainIx b := by exact fun _ _ => rfl) : DE X (.Subscript a b pos) (xOp ixM f g) := by
  refine ⟨fun pins s τ H Q I hw => Subscript_ (two_run (F := subscriptTail a b) ha hb I hw fun ι h H x y d h' vx vy s u w I R rx ry ru rw' ev q => ?_)⟩
  unfold ixM at ev
  split at ev
  · rename_i xs e0
    obtain ⟨p, vs, rfl, s1, rs⟩ := itemsOf_ok R e0 rx
    split at ev
    · rename_i k
      split at ev
      · rename_i d' e1
        cases ev
        obtain rfl := ry.int_inv
        obtain ⟨v, e2, r2⟩ := rs.atI e1
        rcases s1 with s1 | s1
        · exact ix_list a b pins s τ H _ _ u w Q I ru rw' ⟨p, vs, k, v, rfl, rfl, s1, e2, q.now R r2⟩ (hs _ _)
        · exact ix_tup a b pins s τ H _ _ u w Q I ru rw' ⟨p, vs, k, v, rfl, rfl, s1, e2, q.now R r2⟩ (hs _ _)
      · cases ev
    · cases ev
  · split at ev
    · rename_i n _
      split at ev
      · rename_i kvs e1
        split at ev
        · rename_i k e2
          split at ev
          · rename_i d' e3
            cases ev
            obtain ⟨p, vs, rfl, _, s1, rs⟩ := R.dct e1 rx
            obtain rfl := keyOf_ok e2 ry
            obtain ⟨v, e4, r4⟩ := (look_ok (k := k) rs).1 _ e3
            obtain rfl : u = Value.ref p := ru
            have g : DGet H p (kV k) (some v) := by rw [← e4]; exact DGet.k s1
            exact tail_any (dict_typeIs I g) PySem.F.slot_dict_getitem.lookup (d_getItem hu.u1 I g rw' fun w2 s3 I3 rw2 => ⟨v, H, I3, rw2, q.now R r4⟩) (hs _ _)
          · cases ev
        · cases ev
      · cases ev
    · cases ev

/-! ### slices -/
def xNoPart : Ev → M (Option Int) := fun _ => ret none
def xPart (f : Ev → M D) : Ev → M (Option Int) := fun σ => bnd (f σ) fun x h => match x with
  | .int i => some (some i, h)
  | _ => none
def tDO (K : PySem.W.Frag) (f : Ev → M (Option Int)) : TO := fun τ H Q => ∃ (ι : List Addr) (σ : Ev) (h : Hd) (d : Option Int) (h' : Hd), RelS K ι σ h τ H ∧ f σ h = some (d, h') ∧ ∀ (ι' : List Addr) (H' : Hp), ι <+: ι' → RelH K ι' h' H' → TExt K H H' → Q d H'
def DO (X : Cx) (e : Option Expr) (f : Ev → M (Option Int)) : Prop := PO X e (tDO X.K f)
theorem do_none : DO X none xNoPart := ⟨fun pins s τ H Q I ⟨ι, σ, h, d, h', S, ev, q⟩ => by
  cases ev
  exact po_none.run pins s τ H Q I (q ι H (List.prefix_refl _) S.hp TExt.rfl')⟩
theorem do_some (he : DE X e f) : DO X (some e) (xPart f) := ⟨fun pins s τ H Q I ⟨ι, σ, h, d, h', S, ev, q⟩ => by
  obtain ⟨x, h1, e1, ev⟩ := bnd_some ev
  refine (po_some he).run pins s τ H Q I ⟨ι, σ, h, x, h1, S, e1, fun ι1 v1 H1 p R r t => ?_⟩
  split at ev
  · rename_i i
    cases ev
    obtain rfl := r.int_inv
    exact ⟨i, rfl, q ι1 H1 p R t⟩
  · cases ev⟩
def cutD (xs : List D) (lo hi : Option Int) : List D := (xs.drop (HT.sIx xs.length 0 lo)).take (HT.sIx xs.length xs.length hi - HT.sIx xs.length 0 lo)
theorem RDs.cut {K : PySem.W.Frag} {H : Hp} {ι : List Addr} {xs : List D} {vs : List V} (r : RDs K H ι xs vs) (lo hi : Option Int) : RDs K H ι (cutD xs lo hi) (cutV vs lo hi) := by
  unfold cutD cutV
  rw [r.length]
  exact (r.drop _).take _
/-- the items of a list -/
def listOf (h : Hd) : D → Option (List D)
  | .ref n => match h[n]? with
    | some (.lst xs) => some xs
    | some (.ro xs) => some xs
    | _ => none
  | _ => none
theorem listOf_ok {K : PySem.W.Frag} {ι : List Addr} {h : Hd} {H : Hp} {y : D} {v : V} {xs : List D} (R : RelH K ι h H) (e : listOf h y = some xs) (r : RD K H ι y v) : ∃ a vs, v = .ref a ∧ SqL K H a vs ∧ RDs K H ι xs vs := by
  cases y <;> simp only [listOf] at e <;> try cases e
  split at e
  · rename_i e0
    cases e
    obtain ⟨a, vs, rfl, _, s, rs⟩ := R.lst e0 r
    exact ⟨a, vs, rfl, SqL.of s, rs⟩
  · rename_i e0
    cases e
    obtain ⟨a, vs, rfl, s, rs⟩ := R.ro e0 r
    exact ⟨a, vs, rfl, s, rs⟩
  · cases e
def slM (x : D) (lo hi : Option Int) : M D := fun h => match x with
  | .tup xs => some (.tup (cutD xs lo hi), h)
  | .ref n => match listOf h (.ref n) with
    | some xs => some (.ref h.length, h ++ [.lst (cutD xs lo hi)])
    | none => none
  | _ => none
def xSl (f : Ev → M D) (l u : Ev → M (Option Int)) : Ev → M D := fun σ => bnd (f σ) fun x => bnd (l σ) fun lo => bnd (u σ) fun hi => slM x lo hi
theorem cutD_whole {xs : List D} {lo hi : Option Int} (h : HT.sIx xs.length 0 lo = 0 ∧ HT.sIx xs.length xs.length hi = xs.length) : cutD xs lo hi = xs := by
  unfold cutD
  rw [h.1, h.2]
  simp
theorem de_slice {l u : Ev → M (Option Int)} {lo hi : Option Expr} (ha : DE X a f) (hl : DO X lo l) (hh : DO X hi u) : DE X (.Subscript a (.Slice lo hi none p2) pos) (xSl f l u) := by
  refine PE.le (pe_slice (r := fun x lo hi H Q => rSlL X.K x lo hi H Q ∨ rSlA X.K x lo hi H Q) (sl_list.or sl_tupA) ha hl hh) fun τ H Q ⟨ι, σ, h, d, h', S, ev, q⟩ => ?_
  obtain ⟨x, h1, e1, ev⟩ := bnd_some ev
  obtain ⟨i, h2, e2, ev⟩ := bnd_some ev
  obtain ⟨j, h3, e3, ev⟩ := bnd_some ev
  refine ⟨ι, σ, h, x, h1, S, e1, fun ι1 v1 H1 p1 R1 r1 t1 => ⟨ι1, σ, h1, i, h2, S.step p1 R1 t1, e2, fun ι2 H2 p2 R2 t2 => ⟨ι2, σ, h2, j, h3, (S.step p1 R1 t1).step p2 R2 t2, e3, fun ι3 H3 p3 R3 t3 => ?_⟩⟩⟩
  have r3 := r1.mono (p2.trans p3) (t2.trans t3)
  have q3 := q.step ((p1.trans p2).trans p3) ((t1.trans t2).trans t3)
  unfold slM at ev
  split at ev
  · rename_i xs
    cases ev
    obtain ⟨a, vs, rfl, s1, rs⟩ := r3.tup_inv
    refine .inr ⟨a, vs, rfl, s1, fun hz => ?_, fun _ => q3.tup R3 (rs.cut i j)⟩
    rw [← rs.length] at hz
    rw [cutD_whole hz] at q3
    exact q3.now R3 (RD.tup s1 rs)
  · split at ev
    · rename_i xs e0
      cases ev
      obtain ⟨a, vs, rfl, s1, rs⟩ := listOf_ok R3 e0 r3
      exact .inl ⟨a, vs, rfl, s1, q3.lst R3 (rs.cut i j)⟩
    · cases ev
  · cases ev
end

/-! ### statements -/
inductive Fl where
  | nx (σ : Ev) | rt (d : D) | bk (σ : Ev) | ct (σ : Ev)
def PstS (K : PySem.W.Frag) (ι : List Addr) (H : Hp) (σ : Ev) (h' : Hd) (N : L2.St → Hp → Prop) : Prop := ∀ (ι' : List Addr) (τ : L2.St) (H' : Hp), ι <+: ι' → RelS K ι' σ h' τ H' → TExt K H H' → N τ H'
def EndsOk (K : PySem.W.Frag) (ι : List Addr) (H : Hp) (r : Fl) (h' : Hd) (D : Ends) : Prop := match r with
  | .nx σ => PstS K ι H σ h' D.nx
  | .rt d => Pst K ι H d h' D.rt
  | .bk σ => PstS K ι H σ h' D.bk
  | .ct σ => PstS K ι H σ h' D.ct
theorem PstS.step {K : PySem.W.Frag} {ι ι1 : List Addr} {H H1 : Hp} {σ : Ev} {h' : Hd} {N : L2.St → Hp → Prop} (k : PstS K ι H σ h' N) (p : ι <+: ι1) (t : TExt K H H1) : PstS K ι1 H1 σ h' N :=
  fun ι' τ H' p' S t' => k ι' τ H' (p.trans p') S (t.trans t')
theorem EndsOk.step {K : PySem.W.Frag} {ι ι1 : List Addr} {H H1 : Hp} {r : Fl} {h' : Hd} {D : Ends} (k : EndsOk K ι H r h' D) (p : ι <+: ι1) (t : TExt K H H1) : EndsOk K ι1 H1 r h' D := by
  cases r with
  | nx σ => exact PstS.step k p t
  | rt d => exact Pst.step k p t
  | bk σ => exact PstS.step k p t
  | ct σ => exact PstS.step k p t
theorem PstS.now {K : PySem.W.Frag} {ι : List Addr} {H : Hp} {σ : Ev} {h' : Hd} {τ : L2.St} {N : L2.St → Hp → Prop} (k : PstS K ι H σ h' N) (S : RelS K ι σ h' τ H) : N τ H := k ι τ H (List.prefix_refl _) S TExt.rfl'
def tDS (K : PySem.W.Frag) (g : Ev → M Fl) : TS := fun D τ H => ∃ (ι : List Addr) (σ : Ev) (h : Hd) (r : Fl) (h' : Hd), RelS K ι σ h τ H ∧ g σ h = some (r, h') ∧ EndsOk K ι H r h' D
def DS (X : Cx) (st : Stmt) (g : Ev → M Fl) : Prop := PS X st (tDS X.K g)
def DSs (X : Cx) (st : List Stmt) (g : Ev → M Fl) : Prop := PSs X st (tDS X.K g)
theorem PS.le {X : Cx} {st : Stmt} {t t' : TS} (h : PS X st t) (w : ∀ D τ H, t' D τ H → t D τ H) : PS X st t' := ⟨fun pins s σ H D I q => h.run pins s σ H D I (w _ _ _ q)⟩
theorem PSs.le {X : Cx} {st : List Stmt} {t t' : TS} (h : PSs X st t) (w : ∀ D τ H, t' D τ H → t D τ H) : PSs X st t' := ⟨fun pins s σ H D I q => h.run pins s σ H D I (w _ _ _ q)⟩
section
variable {X : Cx} {st : Stmt} {rest : List Stmt} {g g2 : Ev → M Fl} {e : Expr} {f : Ev → M D} {pos : Pos}
def xPass : Ev → M Fl := fun σ => ret (.nx σ)
def xSeq (g g2 : Ev → M Fl) : Ev → M Fl := fun σ => bnd (g σ) fun r => match r with
  | .nx σ' => g2 σ'
  | .rt d => ret (.rt d)
  | .bk σ' => ret (.bk σ')
  | .ct σ' => ret (.ct σ')
theorem dss_nil : DSs X [] xPass := PSs.le pss_nil fun D τ H ⟨ι, σ, h, r, h', S, ev, q⟩ => by
  cases ev
  exact PstS.now q S
theorem ds_pass : DS X (.Pass pos) xPass := PS.le ps_pass fun D τ H ⟨ι, σ, h, r, h', S, ev, q⟩ => by
  cases ev
  exact PstS.now q S
def xBreak : Ev → M Fl := fun σ => ret (.bk σ)
def xCont : Ev → M Fl := fun σ => ret (.ct σ)
theorem ds_break : DS X (.Break pos) xBreak := PS.le ps_break fun D τ H ⟨ι, σ, h, r, h', S, ev, q⟩ => by
  cases ev
  exact PstS.now q S
theorem ds_cont : DS X (.Continue pos) xCont := PS.le ps_continue fun D τ H ⟨ι, σ, h, r, h', S, ev, q⟩ => by
  cases ev
  exact PstS.now q S
theorem dss_one (h : DS X st g) : DSs X [st] g := pss_one h
theorem dss_cons (h1 : DS X st g) (h2 : DSs X rest g2) : DSs X (st :: rest) (xSeq g g2) := PSs.le (pss_cons h1 h2) fun D τ H ⟨ι, σ, h, r, h', S, ev, q⟩ => by
  obtain ⟨r1, h1, e1, ev⟩ := bnd_some ev
  refine ⟨ι, σ, h, r1, h1, S, e1, ?_⟩
  cases r1 with
  | nx σ1 => exact fun ι1 τ1 H1 p S1 t => ⟨ι1, σ1, h1, r, h', S1, ev, q.step p t⟩
  | rt d => cases ev; exact q
  | bk σ1 => cases ev; exact q
  | ct σ1 => cases ev; exact q
def xDrop (f : Ev → M D) : Ev → M Fl := fun σ => bnd (f σ) fun _ => ret (.nx σ)
theorem ds_expr (he : DE X e f) (hs : swapsWith e none pos.line X.env = pure false := by rfl) : DS X (.Expr e pos) (xDrop f) := PS.le (ps_expr he hs) fun D τ H ⟨ι, σ, h, r, h', S, ev, q⟩ => by
  obtain ⟨x, h1, e1, ev⟩ := bnd_some ev
  cases ev
  exact ⟨ι, σ, h, x, _, S, e1, fun ι1 v1 H1 p R r t => q ι1 τ H1 p (S.step p R t) t⟩
def xRet (f : Ev → M D) : Ev → M Fl := fun σ => bnd (f σ) fun x => ret (.rt x)
theorem ds_ret (he : DE X e f) : DS X (.Return (some e) pos) (xRet f) := PS.le (ps_ret he) fun D τ H ⟨ι, σ, h, r, h', S, ev, q⟩ => by
  obtain ⟨x, h1, e1, ev⟩ := bnd_some ev
  cases ev
  exact ⟨ι, σ, h, x, _, S, e1, q⟩
def xRetN : Ev → M Fl := fun _ => ret (.rt .non)
theorem ds_retN : DS X (.Return none pos) xRetN := PS.le ps_retN fun D τ H ⟨ι, σ, h, r, h', S, ev, q⟩ => by
  cases ev
  exact Pst.now q S.hp RD.non
def xIfS (c : Ev → M Bool) (g g2 : Ev → M Fl) : Ev → M Fl := fun σ => bnd (c σ) fun b => if b = true then g σ else g2 σ
theorem ds_if {c : Expr} {a b : List Stmt} {tc : Ev → M Bool} (hc : DT X c tc) (ha : DSs X a g) (hb : DSs X b g2) : DS X (.If c a b pos) (xIfS tc g g2) := PS.le (ps_if hc ha hb) fun D τ H ⟨ι, σ, h, r, h', S, ev, q⟩ => by
  obtain ⟨x, h1, e1, ev⟩ := bnd_some ev
  refine ⟨ι, σ, h, x, h1, S, e1, fun ι1 H1 p R t => ?_⟩
  cases x with
  | true => exact ⟨ι1, σ, h1, r, h', S.step p R t, ev, q.step p t⟩
  | false => exact ⟨ι1, σ, h1, r, h', S.step p R t, ev, q.step p t⟩
/-- what is never come to (a raise) -/
theorem ds_bad : DS X st (fun _ => bad) := PS.le ps_never fun D τ H ⟨ι, σ, h, r, h', S, ev, q⟩ => by cases ev
theorem dss_bad {sts : List Stmt} : DSs X sts (fun _ => bad) := PSs.le pss_never fun D τ H ⟨ι, σ, h, r, h', S, ev, q⟩ => by cases ev
end

/-! ### targets -/
/-- the slots out of own stay -/
def OutS (own : List Nat) (τ τ' : L2.St) : Prop := τ'.length = τ.length ∧ ∀ j, j ∉ own → τ'[j]? = τ[j]?
theorem OutS.refl {own : List Nat} {τ : L2.St} : OutS own τ τ := ⟨rfl, fun _ _ => rfl⟩
theorem OutS.trans {own own2 : List Nat} {τ τ1 τ2 : L2.St} (a : OutS own τ τ1) (b : OutS own2 τ1 τ2) : OutS (own ++ own2) τ τ2 := ⟨b.1.trans a.1, fun j hj => by
  rw [List.mem_append, not_or] at hj
  exact (b.2 j hj.2).trans (a.2 j hj.1)⟩
def tDG (K : PySem.W.Frag) (own : List Nat) (t : D → Ev → M Ev) : TG := fun v τ H Q => ∃ (ι : List Addr) (σ : Ev) (h : Hd) (d : D) (σ' : Ev) (h' : Hd), RelS K ι σ h τ H ∧ RD K H ι d v ∧ t d σ h = some (σ', h') ∧ ∀ (ι' : List Addr) (τ' : L2.St) (H' : Hp), ι <+: ι' → RelS K ι' σ' h' τ' H' → TExt K H H' → OutS own τ τ' → Q τ' H'
def DG (X : Cx) (tg : Expr) (own : List Nat) (t : D → Ev → M Ev) : Prop := PG X tg (tDG X.K own t)
def tDGs (K : PySem.W.Frag) (own : List Nat) (t : List D → Ev → M Ev) : TGs := fun vs τ H Q => ∃ (ι : List Addr) (σ : Ev) (h : Hd) (ds : List D) (σ' : Ev) (h' : Hd), RelS K ι σ h τ H ∧ RDs K H ι ds vs ∧ t ds σ h = some (σ', h') ∧ ∀ (ι' : List Addr) (τ' : L2.St) (H' : Hp), ι <+: ι' → RelS K ι' σ' h' τ' H' → TExt K H H' → OutS own τ τ' → Q τ' H'
def DGs (X : Cx) (tgs : List Expr) (own : List Nat) (t : List D → Ev → M Ev) : Prop := PGs X tgs (tDGs X.K own t)
theorem PG.le {X : Cx} {e : Expr} {t t' : TG} (h : PG X e t) (w : ∀ v τ H Q, t' v τ H Q → t v τ H Q) : PG X e t' := ⟨fun pins s σ H v u Q I r q => h.run pins s σ H v u Q I r (w _ _ _ _ q)⟩
theorem PGs.le {X : Cx} {e : List Expr} {t t' : TGs} (h : PGs X e t) (w : ∀ v τ H Q, t' v τ H Q → t v τ H Q) : PGs X e t' := ⟨fun pins s σ H v u Q I r q => h.run pins s σ H v u Q I r (w _ _ _ _ q)⟩
section
variable {X : Cx} {e : Expr} {es : List Expr} {pos : Pos}
def gSet (i : Nat) : D → Ev → M Ev := fun d σ => ret (σ.set i (some d))
theorem dg_name (i : Nat) {x : Str} (hN : X.N.Nodup) (hi : X.N[i]? = some x := by rfl) (hx : Loc X.env.scope x := by first | exact Or.inl rfl | exact Or.inr rfl) (hf : X.fn x = true ∨ X.env.scope.names.lookup x = some .local := by first | exact .inl rfl | exact .inr rfl | assumption) : DG X (.Name x pos) [i] (gSet i) :=
  PG.le (pg_name hN hi hx hf) fun v τ H Q ⟨ι, σ, h, d, σ', h', S, rd, ev, q⟩ => by
    cases ev
    refine q ι _ H (List.prefix_refl _) ⟨S.hp, S.env.set rd i⟩ TExt.rfl' ⟨by rw [List.length_set], fun j hj => ?_⟩
    rw [List.getElem?_set_ne]
    intro z; subst z; exact hj (by simp)
def gsNil : List D → Ev → M Ev := fun ds σ h => match ds with
  | [] => some (σ, h)
  | _ => none
def gsCons (t : D → Ev → M Ev) (ts : List D → Ev → M Ev) : List D → Ev → M Ev := fun ds σ h => match ds with
  | [] => none
  | d :: ds => bnd (t d σ) (fun σ' => ts ds σ') h
theorem dgs_nil : DGs X [] [] gsNil := PGs.le pgs_nil fun v τ H Q ⟨ι, σ, h, d, σ', h', S, rd, ev, q⟩ => by
  cases d with
  | nil => cases ev; exact ⟨rd.inv0, q ι τ H (List.prefix_refl _) S TExt.rfl' OutS.refl⟩
  | cons d ds => cases ev
theorem dgs_cons {o1 o2 : List Nat} {t : D → Ev → M Ev} {ts : List D → Ev → M Ev} (h1 : DG X e o1 t) (h2 : DGs X es o2 ts) (hs : (assignEach (e :: es) X.env).map (·.2) = assign e X.env :: (assignEach es X.env).map (·.2) := by rfl) : DGs X (e :: es) (o1 ++ o2) (gsCons t ts) :=
  PGs.le (pgs_cons h1 h2 hs) fun v τ H Q ⟨ι, σ, h, d, σ', h', S, rd, ev, q⟩ => by
    cases d with
    | nil => cases ev
    | cons d ds =>
      obtain ⟨v, r, rfl, r1, r2⟩ := rd.inv
      obtain ⟨σ1, h1, e1, ev⟩ := bnd_some ev
      exact ⟨v, r, rfl, ι, σ, h, d, σ1, h1, S, r1, e1, fun ι1 τ1 H1 p S1 t O => ⟨ι1, σ1, h1, ds, σ', h', S1, r2.mono p t, ev, fun ι2 τ2 H2 p2 S2 t2 O2 => q ι2 τ2 H2 (p.trans p2) S2 (t.trans t2) (O.trans O2)⟩⟩
/-- a, b, .. = a tuple, a list -/
def gTupD (n : Nat) (ts : List D → Ev → M Ev) : D → Ev → M Ev := fun d σ h => match itemsOf h d with
  | some xs => if xs.length = n then ts xs σ h else none
  | none => none
theorem dg_tup {own : List Nat} {k n : Nat} {ts : List D → Ev → M Ev} (hc : X.calm = true) (h : DGs X es own ts) (hn : (assignEach es X.env).length = n := by rfl) (hst : (assignEach es X.env).findIdx? (·.1) = none := by rfl) : DG X (.Tuple es k pos) own (gTupD n ts) := by
  refine ⟨fun pins s τ H v u Q I r hw => ?_⟩
  obtain ⟨ι, σ, hh, d, σ', h', S, rd, ev, q⟩ := hw
  unfold gTupD at ev
  split at ev
  · rename_i xs e0
    split at ev
    · rename_i hl
      obtain ⟨a, vs, rfl, s1, rs⟩ := itemsOf_ok S.hp e0 rd
      have hl' : vs.length = n := rs.length.symm.trans hl
      rcases s1 with s1 | s1
      · exact (pg_unl (k := k) hc h hn hst).run pins s τ H _ u Q I r ⟨a, vs, rfl, s1, hl', ι, σ, hh, xs, σ', h', S, rs, ev, q⟩
      · exact (pg_tup (k := k) hc h hn hst).run pins s τ H _ u Q I r ⟨a, vs, rfl, s1, hl', ι, σ, hh, xs, σ', h', S, rs, ev, q⟩
    · cases ev
  · cases ev
/-! ### stores -/
variable {f : Ev → M D} {own : List Nat} {t : D → Ev → M Ev} {tg : Expr}
def xAsg (f : Ev → M D) (t : D → Ev → M Ev) : Ev → M Fl := fun σ => bnd (f σ) fun d => bnd (t d σ) fun σ' => ret (.nx σ')
theorem asg_le (K : PySem.W.Frag) (D : Ends) (τ : L2.St) (H : Hp) (hw : tDS K (xAsg f t) D τ H) : tAsg (tD K f) (tDG K own t) D τ H := by
  obtain ⟨ι, σ, h, r, h', S, ev, q⟩ := hw
  obtain ⟨x, h1, e1, ev⟩ := bnd_some ev
  obtain ⟨σ1, h2, e2, ev⟩ := bnd_some ev
  cases ev
  exact ⟨ι, σ, h, x, h1, S, e1, fun ι1 v1 H1 p1 R1 r1 t1 => ⟨ι1, σ, h1, x, σ1, _, S.step p1 R1 t1, r1, e2, fun ι2 τ2 H2 p2 S2 t2 _ => q ι2 τ2 H2 (p1.trans p2) S2 (t1.trans t2)⟩⟩
theorem ds_asg (he : DE X e f) (hg : DG X tg own t) (hs : swapsWithSole [tg] e pos.line X.env = pure false := by rfl) (hw : swappedStores [tg] e X.env = pure none := by rfl)
    (h1 : (assignEach [tg] X.env).map (·.2) = [assign tg X.env] := by rfl) : DS X (.Assign [tg] e pos) (xAsg f t) := PS.le (ps_asg he hg hs hw h1) fun D τ H h => asg_le X.K D τ H h
theorem ds_set (i : Nat) {x : Str} {pos' : Pos} (hN : X.N.Nodup) (he : DE X e f) (hi : X.N[i]? = some x := by rfl) (hx : Loc X.env.scope x := by first | exact Or.inl rfl | exact Or.inr rfl) (hs : swapsWith e (some (.Name x pos')) pos.line X.env = pure false := by rfl) (hf : X.fn x = true ∨ X.env.scope.names.lookup x = some .local := by first | exact .inl rfl | exact .inr rfl | assumption) :
    DS X (.Assign [.Name x pos'] e pos) (xAsg f (gSet i)) := PS.le (ps_set hN hi hx he hs hf) fun D τ H ⟨ι, σ, h, r, h', S, ev, q⟩ => by
  obtain ⟨x, h1, e1, ev⟩ := bnd_some ev
  obtain ⟨σ1, h2, e2, ev⟩ := bnd_some ev
  cases ev
  cases e2
  exact ⟨ι, σ, h, x, _, S, e1, fun ι1 v1 H1 p1 R1 r1 t1 => q ι1 _ H1 p1 ⟨R1, (S.env.mono p1 t1).set r1 i⟩ t1⟩
/-- a rule by what is found -/
def dynR (X : Cx) (F : Value → Value → Sem Value) : R2 := fun x y H Q => ∃ r : R2, OpR X F r ∧ r x y H Q
theorem dyn_ok {F : Value → Value → Sem Value} : OpR X F (dynR X F) := fun pins s σ H x y v u Q I rx ry ⟨_, hr, q⟩ => hr pins s σ H x y v u Q I rx ry q
/-- name op= e -/
def xAug (i : Nat) (f : Ev → M D) (op : D → D → M D) : Ev → M Fl := fun σ h => match σ[i]? with
  | some (some x) => bnd (f σ) (fun y => bnd (op x y) fun z => ret (.nx (σ.set i (some z)))) h
  | _ => none
theorem ds_aug (i : Nat) {x : Str} {o : Operator} {op : D → D → M D} {pos' : Pos} (hN : X.N.Nodup) (he : DE X e f) (ho : OpD X (inplaceOp o) op) (hi : X.N[i]? = some x := by rfl) (hx : Loc X.env.scope x := by first | exact Or.inl rfl | exact Or.inr rfl) (hf : X.fn x = true ∨ X.env.scope.names.lookup x = some .local := by first | exact .inl rfl | exact .inr rfl | assumption) :
    DS X (.AugAssign (.Name x pos') o e pos) (xAug i f op) := PS.le (ps_aug (ti := dynR X (inplaceOp o)) hN hi hx he dyn_ok hf) fun D τ H ⟨ι, σ, h, r, h', S, ev, q⟩ => by
  unfold xAug at ev
  split at ev
  · rename_i x0 ex
    obtain ⟨y, h1, e1, ev⟩ := bnd_some ev
    obtain ⟨z, h2, e2, ev⟩ := bnd_some ev
    cases ev
    obtain ⟨vx, e3, rx⟩ := S.env.at_ i _ ex
    refine ⟨vx, e3, ι, σ, h, y, h1, S, e1, fun ι1 vy H1 p1 R1 r1 t1 => ?_⟩
    exact ho ι1 h1 H1 x0 y z _ vx vy _ R1 (rx.mono p1 t1) r1 e2 fun ι2 vz H2 p2 R2 r2 t2 => q ι2 _ H2 (p1.trans p2) ⟨R2, ((S.env.mono p1 t1).mono p2 t2).set r2 i⟩ (t1.trans t2)
  · cases ev
def iaddM (x y : D) : M D := fun h => match x, y with
  | .int i, .int j => some (.int (i + j), h)
  | _, _ => none
theorem io_add : OpD X (inplaceOp .Add) iaddM := by
  intro ι h H x y d h' vx vy Q R rx ry ev q
  cases x <;> cases y <;> dsimp only [iaddM] at ev <;> try cases ev
  obtain rfl := rx.int_inv
  obtain rfl := ry.int_inv
  exact ⟨_, iop_add, _, _, rfl, rfl, q.now R RD.int⟩
theorem io_sub : OpD X (inplaceOp .Sub) subM := by
  intro ι h H x y d h' vx vy Q R rx ry ev q
  cases x <;> cases y <;> dsimp only [subM] at ev <;> try cases ev
  obtain rfl := rx.int_inv
  obtain rfl := ry.int_inv
  exact ⟨_, iop_sub, _, _, rfl, rfl, q.now R RD.int⟩
end

/-! ### what is walked -/
structure Src where
  item : Hd → Nat → Option (Option D)
  fuel : Nat
def SrcOk (K : PySem.W.Frag) (J : It) (ι : List Addr) (H0 : Hp) (s : Src) : Prop := ∀ (ι' : List Addr) (h : Hd) (H : Hp) (i : Nat), ι <+: ι' → RelH K ι' h H → TExt K H0 H →
  (s.item h i = some none → J.stop i H) ∧ ∀ d, s.item h i = some (some d) → J.go i H ∧ ∀ v H', J.yld i H v H' → RelH K ι' h H' ∧ RD K H' ι' d v ∧ TExt K H H'
def tDI (K : PySem.W.Frag) (s : Ev → M Src) : TI := fun τ H R => ∃ (ι : List Addr) (σ : Ev) (h : Hd) (src : Src) (h' : Hd), RelS K ι σ h τ H ∧ s σ h = some (src, h') ∧ ∀ (ι' : List Addr) (H' : Hp) (J : It), ι <+: ι' → RelH K ι' h' H' → TExt K H H' → SrcOk K J ι' H' src → R J H'
def DI (X : Cx) (tg iter : Expr) (s : Ev → M Src) : Prop := PI X tg iter (tDI X.K s)
theorem none_len {α : Type} {xs : List α} {i : Nat} (e : xs[i]? = none) : xs.length ≤ i := List.getElem?_eq_none_iff.mp e
section
variable {X : Cx} {tg e : Expr} {f : Ev → M D} {pos p : Pos} {es : List Expr} {fs : Ev → M (List D)}
/-- a list or tuple -/
def srcSeq (x : D) : M Src := fun h => match x with
  | .tup xs => some (⟨fun _ i => some xs[i]?, xs.length⟩, h)
  | .ref n => match listOf h (.ref n) with
    | some xs => some (⟨fun h i => match listOf h (.ref n) with
      | some xs => some xs[i]?
      | none => none, xs.length⟩, h)
    | none => none
  | _ => none
def xIter (f : Ev → M D) : Ev → M Src := fun σ => bnd (f σ) srcSeq
theorem srcTup_ok {K : PySem.W.Frag} {ι : List Addr} {H : Hp} {a : Addr} {xs : List D} {vs : List V} (s1 : SqT K H a vs) (rs : RDs K H ι xs vs) :
    SrcOk K (Itt K a) ι H ⟨fun _ i => some xs[i]?, xs.length⟩ := fun ι2 h2 H2 i p2 R2 t2 => by
  have rs2 := rs.mono p2 t2
  refine ⟨fun e => ⟨vs, t2 _ _ s1, by rw [← rs.length]; exact none_len (Option.some.inj e)⟩, fun d e => ?_⟩
  obtain ⟨v, e1, r⟩ := rs2.get (Option.some.inj e)
  refine ⟨⟨vs, v, t2 _ _ s1, e1⟩, fun x H' ⟨eh, hx⟩ => ?_⟩
  subst eh
  have := hx vs (t2 _ _ s1)
  rw [e1] at this
  cases this
  exact ⟨R2, r, TExt.rfl'⟩
theorem srcList_ok {K : PySem.W.Frag} {ι : List Addr} {H : Hp} {a : Addr} {n k : Nat} (i0 : ι[n]? = some a) :
    SrcOk K (Itl K a) ι H ⟨fun h i => match listOf h (.ref n) with
      | some xs => some xs[i]?
      | none => none, k⟩ := fun ι2 h2 H2 i p2 R2 t2 => by
  have rr : RD K H2 ι2 (.ref n) (.ref a) := RD.ref (getElem?_prefix p2 i0)
  refine ⟨fun e => ?_, fun d e => ?_⟩
  · dsimp only at e
    split at e
    · rename_i ys e0
      obtain ⟨a', vs, ea, s1, rs⟩ := listOf_ok R2 e0 rr
      cases ea
      exact ⟨vs, s1, by rw [← rs.length]; exact none_len (Option.some.inj e)⟩
    · cases e
  · dsimp only at e
    split at e
    · rename_i ys e0
      obtain ⟨a', vs, ea, s1, rs⟩ := listOf_ok R2 e0 rr
      cases ea
      obtain ⟨v, e1, r⟩ := rs.get (Option.some.inj e)
      refine ⟨⟨vs, v, s1, e1⟩, fun x H' ⟨eh, hx⟩ => ?_⟩
      subst eh
      have := hx vs s1
      rw [e1] at this
      cases this
      exact ⟨R2, r, TExt.rfl'⟩
    · cases e
theorem di_seq (he : DE X e f) : DI X tg e (xIter f) := by
  refine ⟨fun pins s τ H R I hw => ?_⟩
  obtain ⟨ι, σ, h, src, h', S, ev, q⟩ := hw
  obtain ⟨x, h1, e1, ev⟩ := bnd_some ev
  unfold srcSeq at ev
  split at ev
  · rename_i xs
    cases ev
    refine (pi_tup he).run pins s τ H R I ⟨ι, σ, h, .tup xs, _, S, e1, fun ι1 v1 H1 p1 R1 r1 t1 => ?_⟩
    obtain ⟨a, vs, rfl, s1, rs⟩ := r1.tup_inv
    exact ⟨a, rfl, ⟨vs, s1⟩, q ι1 H1 _ p1 R1 t1 (srcTup_ok s1 rs)⟩
  · rename_i n
    split at ev
    · rename_i xs e0
      cases ev
      refine (pi_list he).run pins s τ H R I ⟨ι, σ, h, .ref n, _, S, e1, fun ι1 v1 H1 p1 R1 r1 t1 => ?_⟩
      obtain ⟨a, vs, rfl, s1, rs⟩ := listOf_ok R1 e0 r1
      have i0 : ι1[n]? = some a := by
        unfold RD at r1
        obtain ⟨a', i0, ea⟩ := r1
        cases ea
        exact i0
      exact ⟨a, rfl, ⟨vs, s1⟩, q ι1 H1 _ p1 R1 t1 (srcList_ok i0)⟩
    · cases ev
  · cases ev
/-- range -/
def srcRange (lo : Int) (n : Nat) : Src := ⟨fun _ i => if i < n then some (some (.int (lo + (i : Int)))) else some none, n⟩
theorem srcRange_ok {K : PySem.W.Frag} {ι : List Addr} {H : Hp} {lo : Int} {n : Nat} : SrcOk K (Itr lo n) ι H (srcRange lo n) := fun ι2 h2 H2 i p2 R2 t2 => by
  unfold srcRange
  refine ⟨fun e => ?_, fun d e => ?_⟩
  · dsimp only at e
    split at e
    · cases e
    · rename_i hi; exact Nat.le_of_not_lt hi
  · dsimp only at e
    split at e
    · rename_i hi
      cases e
      refine ⟨hi, fun x H' ⟨eh, hx⟩ => ?_⟩
      subst eh hx
      exact ⟨R2, RD.int, TExt.rfl'⟩
    · cases e
def xRange1 (fs : Ev → M (List D)) : Ev → M Src := fun σ => bnd (fs σ) fun xs h => match xs with
  | [.int j] => if -4611686018427387904 ≤ j ∧ j < 4611686018427387904 then some (srcRange 0 j.toNat, h) else none
  | _ => none
def xRange2 (fs : Ev → M (List D)) : Ev → M Src := fun σ => bnd (fs σ) fun xs h => match xs with
  | [.int i, .int j] => if (-4611686018427387904 ≤ i ∧ i < 4611686018427387904) ∧ -4611686018427387904 ≤ j ∧ j < 4611686018427387904 then some (srcRange i (j - i).toNat, h) else none
  | _ => none
theorem di_range1 {a : Expr} (hg : Gl X "range") (hm : X.mg "range" = none) (ha : DA X [a] fs) (hs : starEach [a] X.env = [(false, eval a X.env)] := by rfl) : DI X tg (.Call (.Name "range" p) [a] [] pos) (xRange1 fs) := by
  refine ⟨fun pins s τ H R I ⟨ι, σ, h, src, h', S, ev, q⟩ => ?_⟩
  obtain ⟨xs, h1, e1, ev⟩ := bnd_some ev
  split at ev
  · rename_i j
    split at ev
    · rename_i hz
      cases ev
      refine (pi_range1 hg hm ha hs).run pins s τ H R I ⟨ι, σ, h, [.int j], _, S, e1, fun ι1 vs H1 p1 R1 r1 t1 => ?_⟩
      obtain ⟨v, w, rfl, r2, r3⟩ := r1.inv
      obtain rfl := r2.int_inv
      obtain rfl := r3.inv0
      exact ⟨j, rfl, hz.1, hz.2, q ι1 H1 _ p1 R1 t1 srcRange_ok⟩
    · cases ev
  · cases ev
theorem di_range2 {a b : Expr} (hg : Gl X "range") (hm : X.mg "range" = none) (ha : DA X [a, b] fs) (hs : starEach [a, b] X.env = [(false, eval a X.env), (false, eval b X.env)] := by rfl) (hs2 : starEach [b] X.env = [(false, eval b X.env)] := by rfl) : DI X tg (.Call (.Name "range" p) [a, b] [] pos) (xRange2 fs) := by
  refine ⟨fun pins s τ H R I ⟨ι, σ, h, src, h', S, ev, q⟩ => ?_⟩
  obtain ⟨xs, h1, e1, ev⟩ := bnd_some ev
  split at ev
  · rename_i i j
    split at ev
    · rename_i hz
      cases ev
      refine (pi_range2 hg hm ha hs hs2).run pins s τ H R I ⟨ι, σ, h, [.int i, .int j], _, S, e1, fun ι1 vs H1 p1 R1 r1 t1 => ?_⟩
      obtain ⟨v, w, rfl, r2, r3⟩ := r1.inv
      obtain ⟨v', w', rfl, r4, r5⟩ := r3.inv
      obtain rfl := r2.int_inv
      obtain rfl := r4.int_inv
      obtain rfl := r5.inv0
      exact ⟨i, j, rfl, ⟨hz.1.1, hz.1.2, hz.2.1, hz.2.2⟩, q ι1 H1 _ p1 R1 t1 srcRange_ok⟩
    · cases ev
  · cases ev
/-- reversed(a list) -/
def srcRev (x : D) : M Src := fun h => match x with
  | .ref n => match listOf h (.ref n) with
    | some xs => some (⟨fun h i => if i < xs.length then match listOf h (.ref n) with
      | some ys => match ys[xs.length - 1 - i]? with
        | some d => some (some d)
        | none => none
      | none => none else some none, xs.length⟩, h)
    | none => none
  | _ => none
def xRev (fs : Ev → M (List D)) : Ev → M Src := fun σ => bnd (fs σ) fun xs => match xs with
  | [x] => srcRev x
  | _ => bad
theorem di_rev {e : Expr} (hg : Gl X "reversed") (hm : X.mg "reversed" = none) (ha : DA X [e] fs) (hs : starEach [e] X.env = [(false, eval e X.env)] := by rfl) : DI X tg (.Call (.Name "reversed" p) [e] [] pos) (xRev fs) := by
  refine ⟨fun pins s τ H R I ⟨ι, σ, h, src, h', S, ev, q⟩ => ?_⟩
  obtain ⟨ds, h1, e1, ev⟩ := bnd_some ev
  split at ev
  · rename_i x
    unfold srcRev at ev
    split at ev
    · rename_i n
      split at ev
      · rename_i xs e0
        cases ev
        refine (pi_reversed hg hm ha hs).run pins s τ H R I ⟨ι, σ, h, _, _, S, e1, fun ι1 vs H1 p1 R1 r1 t1 => ?_⟩
        obtain ⟨v, w, rfl, r2, r3⟩ := r1.inv
        obtain rfl := r3.inv0
        obtain ⟨a, ws, rfl, s1, rs⟩ := listOf_ok R1 e0 r2
        have i0 : ι1[n]? = some a := by
          unfold RD at r2
          obtain ⟨a', i0, ea⟩ := r2
          cases ea
          exact i0
        refine ⟨a, ws, rfl, s1, q ι1 H1 _ p1 R1 t1 fun ι2 h2 H2 i p2 R2 t2 => ?_⟩
        have rr : RD X.K H2 ι2 (.ref n) (.ref a) := RD.ref (getElem?_prefix p2 i0)
        rw [← rs.length]
        refine ⟨fun e => ?_, fun d e => ?_⟩
        · dsimp only at e
          split at e
          · split at e
            · split at e
              · cases e
              · cases e
            · cases e
          · rename_i hi; exact Nat.le_of_not_lt hi
        · dsimp only at e
          split at e
          · rename_i hi
            split at e
            · rename_i ys e9
              split at e
              · rename_i d' e8
                cases e
                obtain ⟨a', us, ea, s2, rs2⟩ := listOf_ok R2 e9 rr
                cases ea
                obtain ⟨v, e7, r⟩ := rs2.get e8
                refine ⟨⟨hi, us, v, s2, e7⟩, fun x H' ⟨eh, hx⟩ => ?_⟩
                subst eh
                have := hx us s2
                rw [e7] at this
                cases this
                exact ⟨R2, r, TExt.rfl'⟩
              · cases e
            · cases e
          · cases e
      · cases ev
    · cases ev
  · cases ev
/-- enumerate(a list): pairs -/
def srcEnum (x : D) : M Src := fun h => match x with
  | .ref n => match listOf h (.ref n) with
    | some xs => some (⟨fun h i => match listOf h (.ref n) with
      | some ys => match ys[i]? with
        | some d => some (some (.tup [.int (i : Nat), d]))
        | none => some none
      | none => none, xs.length⟩, h)
    | none => none
  | _ => none
def xEnum (fs : Ev → M (List D)) : Ev → M Src := fun σ => bnd (fs σ) fun xs => match xs with
  | [x] => srcEnum x
  | _ => bad
theorem di_enum {elts : List Expr} {kk : Nat} {tpos : Pos} {e : Expr} (hg : Gl X "enumerate") (hm : X.mg "enumerate" = none) (ha : DA X [e] fs) (hs : starEach [e] X.env = [(false, eval e X.env)] := by rfl) : DI X (.Tuple elts kk tpos) (.Call (.Name "enumerate" p) [e] [] pos) (xEnum fs) := by
  refine ⟨fun pins s τ H R I ⟨ι, σ, h, src, h', S, ev, q⟩ => ?_⟩
  obtain ⟨ds, h1, e1, ev⟩ := bnd_some ev
  split at ev
  · rename_i x
    unfold srcEnum at ev
    split at ev
    · rename_i n
      split at ev
      · rename_i xs e0
        cases ev
        refine (pi_enum hg hm ha hs).run pins s τ H R I ⟨ι, σ, h, _, _, S, e1, fun ι1 vs H1 p1 R1 r1 t1 => ?_⟩
        obtain ⟨v, w, rfl, r2, r3⟩ := r1.inv
        obtain rfl := r3.inv0
        obtain ⟨a, ws, rfl, s1, rs⟩ := listOf_ok R1 e0 r2
        have i0 : ι1[n]? = some a := by
          unfold RD at r2
          obtain ⟨a', i0, ea⟩ := r2
          cases ea
          exact i0
        refine ⟨a, ws, rfl, s1, q ι1 H1 _ p1 R1 t1 fun ι2 h2 H2 i p2 R2 t2 => ?_⟩
        have rr : RD X.K H2 ι2 (.ref n) (.ref a) := RD.ref (getElem?_prefix p2 i0)
        refine ⟨fun e => ?_, fun d e => ?_⟩
        · dsimp only at e
          split at e
          · rename_i ys e9
            split at e
            · cases e
            · rename_i e8
              obtain ⟨a', us, ea, s2, rs2⟩ := listOf_ok R2 e9 rr
              cases ea
              exact ⟨us, s2, by rw [← rs2.length]; exact none_len e8⟩
          · cases e
        · dsimp only at e
          split at e
          · rename_i ys e9
            split at e
            · rename_i d' e8
              cases e
              obtain ⟨a', us, ea, s2, rs2⟩ := listOf_ok R2 e9 rr
              cases ea
              obtain ⟨v, e7, r⟩ := rs2.get e8
              refine ⟨⟨us, v, s2, e7⟩, fun z H' ⟨T, y, ez, hT, eh, hy⟩ => ?_⟩
              subst ez eh
              have := hy us s2
              rw [e7] at this
              cases this
              exact ⟨R2.fresh hT, RD.tup SqT.new ((RDs.cons RD.int (RDs.cons r RDs.nil)).mono (List.prefix_refl _) (TExt.upd hT)), TExt.upd hT⟩
            · cases e
          · cases e
      · cases ev
    · cases ev
  · cases ev
/-- zip of two lists: pairs -/
def srcZip (x y : D) : M Src := fun h => match x, y with
  | .ref n, .ref m => match listOf h (.ref n), listOf h (.ref m) with
    | some xs, some _ => some (⟨fun h i => match listOf h (.ref n), listOf h (.ref m) with
      | some xs, some ys => match xs[i]?, ys[i]? with
        | some d, some e => some (some (.tup [d, e]))
        | _, _ => some none
      | _, _ => none, xs.length⟩, h)
    | _, _ => none
  | _, _ => none
def xZip (fs : Ev → M (List D)) : Ev → M Src := fun σ => bnd (fs σ) fun xs => match xs with
  | [x, y] => srcZip x y
  | _ => bad
theorem di_zip {elts : List Expr} {kk : Nat} {tpos : Pos} {e e2 : Expr} (hg : Gl X "zip") (hm : X.mg "zip" = none) (ha : DA X [e, e2] fs) (hs : starEach [e, e2] X.env = (false, eval e X.env) :: starEach [e2] X.env := by rfl) (hpl : (backTo pos (starEach [e2] X.env)).any (·.1) = false := by rfl) :
    DI X (.Tuple elts kk tpos) (.Call (.Name "zip" p) [e, e2] [] pos) (xZip fs) := by
  refine ⟨fun pins s τ H R I ⟨ι, σ, h, src, h', S, ev, q⟩ => ?_⟩
  obtain ⟨ds, h1, e1, ev⟩ := bnd_some ev
  split at ev
  · rename_i x y
    unfold srcZip at ev
    split at ev
    · rename_i n m
      split at ev
      · rename_i xs zs e0 e00
        cases ev
        refine (pi_zip hg hm ha hs hpl).run pins s τ H R I ⟨ι, σ, h, _, _, S, e1, fun ι1 vs H1 p1 R1 r1 t1 => ?_⟩
        obtain ⟨v, w, rfl, r2, r3⟩ := r1.inv
        obtain ⟨v', w', rfl, r4, r5⟩ := r3.inv
        obtain rfl := r5.inv0
        obtain ⟨a, ws, rfl, s1, rs⟩ := listOf_ok R1 e0 r2
        obtain ⟨b, us, rfl, s2, rs2⟩ := listOf_ok R1 e00 r4
        have i0 : ι1[n]? = some a := by
          unfold RD at r2
          obtain ⟨a', i0, ea⟩ := r2
          cases ea
          exact i0
        have i1 : ι1[m]? = some b := by
          unfold RD at r4
          obtain ⟨a', i0, ea⟩ := r4
          cases ea
          exact i0
        refine ⟨a, b, ws, us, rfl, s1, s2, q ι1 H1 _ p1 R1 t1 fun ι2 h2 H2 i p2 R2 t2 => ?_⟩
        have rr : RD X.K H2 ι2 (.ref n) (.ref a) := RD.ref (getElem?_prefix p2 i0)
        have rr2 : RD X.K H2 ι2 (.ref m) (.ref b) := RD.ref (getElem?_prefix p2 i1)
        refine ⟨fun e => ?_, fun d e => ?_⟩
        · dsimp only at e
          split at e
          · rename_i ys ys2 e9 e99
            obtain ⟨a', us1, ea, q1, rs3⟩ := listOf_ok R2 e9 rr
            cases ea
            obtain ⟨a', us2, ea, q2, rs4⟩ := listOf_ok R2 e99 rr2
            cases ea
            refine ⟨us1, us2, q1, q2, ?_⟩
            rw [← rs3.length, ← rs4.length]
            cases z1 : ys[i]? with
            | none => exact .inl (none_len z1)
            | some d1 =>
              cases z2 : ys2[i]? with
              | none => exact .inr (none_len z2)
              | some d2 => rw [z1, z2] at e; cases e
          · cases e
        · dsimp only at e
          split at e
          · rename_i ys ys2 e9 e99
            split at e
            · rename_i d1 d2 z1 z2
              cases e
              obtain ⟨a', us1, ea, q1, rs3⟩ := listOf_ok R2 e9 rr
              cases ea
              obtain ⟨a', us2, ea, q2, rs4⟩ := listOf_ok R2 e99 rr2
              cases ea
              obtain ⟨v1, y1, k1⟩ := rs3.get z1
              obtain ⟨v2, y2, k2⟩ := rs4.get z2
              refine ⟨⟨us1, us2, v1, v2, q1, q2, y1, y2⟩, fun z H' ⟨T, x1, x2, ez, hT, eh, hx1, hx2⟩ => ?_⟩
              subst ez eh
              have w1 := hx1 us1 q1
              have w2 := hx2 us2 q2
              rw [y1] at w1
              rw [y2] at w2
              cases w1
              cases w2
              exact ⟨R2.fresh hT, RD.tup SqT.new ((RDs.cons k1 (RDs.cons k2 RDs.nil)).mono (List.prefix_refl _) (TExt.upd hT)), TExt.upd hT⟩
            · cases e
          · cases e
      · cases ev
    · cases ev
  · cases ev
end

/-! ### for -/
def forL (s : Src) (t : D → Ev → M Ev) (g : Ev → M Fl) : Nat → Nat → Ev → M Fl
  | 0, _, _ => fun _ => none
  | k + 1, i, σ => fun h => match s.item h i with
    | none => none
    | some none => some (.nx σ, h)
    | some (some d) => match bnd (t d σ) g h with
      | none => none
      | some (.nx σ', h') => forL s t g k (i + 1) σ' h'
      | some (.ct σ', h') => forL s t g k (i + 1) σ' h'
      | some (.bk σ', h') => some (.nx σ', h')
      | some (.rt d, h') => some (.rt d, h')
def xFor (s : Ev → M Src) (t : D → Ev → M Ev) (g : Ev → M Fl) : Ev → M Fl := fun σ => bnd (s σ) fun src => forL src t g (src.fuel + 1) 0 σ
section
variable {X : Cx} {tg iter : Expr} {body : List Stmt} {s : Ev → M Src} {t : D → Ev → M Ev} {g : Ev → M Fl} {own : List Nat} {pos : Pos}
theorem ds_for (hc : X.calm = true) (hi : DI X tg iter s) (hg : DG X tg own t) (hb : DSs X body g) (hp : PassesOwn (model X.prog X.w) X.A X.env X.xe := by exact PassesOwn.never) (hs : ∀ x, foldedSetIterable iter X.env x = pure x := by intro _; rfl) :
    DS X (.For tg iter body [] pos) (xFor s t g) := PS.le (ps_for hp hc hi hg hb hs) fun D τ H ⟨ι, σ, h, r, h', S, ev, q⟩ => by
  obtain ⟨src, h1, e1, ev⟩ := bnd_some ev
  refine ⟨ι, σ, h, src, h1, S, e1, fun ι1 H1 J p1 R1 t1 ok => ?_⟩
  refine ⟨fun i m τ2 H2 => ∃ ι2 σ2 h2, ι1 <+: ι2 ∧ RelS X.K ι2 σ2 h2 τ2 H2 ∧ TExt X.K H1 H2 ∧ forL src t g m i σ2 h2 = some (r, h') ∧ EndsOk X.K ι2 H2 r h' D,
    ⟨src.fuel + 1, ι1, σ, h1, List.prefix_refl _, S.step p1 R1 t1, TExt.rfl', ev, q.step p1 t1⟩, ?_⟩
  rintro i m τ2 H2 ⟨ι2, σ2, h2, p2, S2, t2, e2, q2⟩
  cases m with
  | zero => simp only [forL] at e2; cases e2
  | succ m =>
    simp only [forL] at e2
    have hk := ok ι2 h2 H2 i p2 S2.hp t2
    split at e2
    · cases e2
    · rename_i e3
      cases e2
      exact .inl ⟨hk.1 e3, PstS.now q2 S2⟩
    · rename_i d e3
      obtain ⟨go, yl⟩ := hk.2 d e3
      refine .inr ⟨go, fun τ3 H3 => ∃ ι3 σ3 h3, ι1 <+: ι3 ∧ RelS X.K ι3 σ3 h3 τ3 H3 ∧ TExt X.K H1 H3 ∧ forL src t g m (i + 1) σ3 h3 = some (r, h') ∧ EndsOk X.K ι3 H3 r h' D, ?_, fun v H3 y => ?_⟩
      · rintro τ3 H3 ⟨ι3, σ3, h3, a1, a2, a3, a4, a5⟩
        exact ⟨m, Nat.lt_succ_self _, ι3, σ3, h3, a1, a2, a3, a4, a5⟩
      · obtain ⟨R3, r3, t3⟩ := yl v H3 y
        have S3 : RelS X.K ι2 σ2 h2 τ2 H3 := S2.step (List.prefix_refl _) R3 t3
        have core : ∀ r2 h4, bnd (t d σ2) g h2 = some (r2, h4) → (∀ ι4 H4, ι2 <+: ι4 → TExt X.K H3 H4 → EndsOk X.K ι4 H4 r2 h4 { D with nx := fun τ3 H3 => ∃ ι3 σ3 h3, ι1 <+: ι3 ∧ RelS X.K ι3 σ3 h3 τ3 H3 ∧ TExt X.K H1 H3 ∧ forL src t g m (i + 1) σ3 h3 = some (r, h') ∧ EndsOk X.K ι3 H3 r h' D, ct := fun τ3 H3 => ∃ ι3 σ3 h3, ι1 <+: ι3 ∧ RelS X.K ι3 σ3 h3 τ3 H3 ∧ TExt X.K H1 H3 ∧ forL src t g m (i + 1) σ3 h3 = some (r, h') ∧ EndsOk X.K ι3 H3 r h' D, bk := D.nx }) →
            tDG X.K own t v τ2 H3 fun τ4 H4 => tDS X.K g { D with nx := fun τ3 H3 => ∃ ι3 σ3 h3, ι1 <+: ι3 ∧ RelS X.K ι3 σ3 h3 τ3 H3 ∧ TExt X.K H1 H3 ∧ forL src t g m (i + 1) σ3 h3 = some (r, h') ∧ EndsOk X.K ι3 H3 r h' D, ct := fun τ3 H3 => ∃ ι3 σ3 h3, ι1 <+: ι3 ∧ RelS X.K ι3 σ3 h3 τ3 H3 ∧ TExt X.K H1 H3 ∧ forL src t g m (i + 1) σ3 h3 = some (r, h') ∧ EndsOk X.K ι3 H3 r h' D, bk := D.nx } τ4 H4 := by
          intro r2 h4 e4 q4
          obtain ⟨σ3, h3, e5, e6⟩ := bnd_some e4
          exact ⟨ι2, σ2, h2, d, σ3, h3, S3, r3, e5, fun ι4 τ4 H4 p4 S4 t4 _ => ⟨ι4, σ3, h3, r2, h4, S4, e6, q4 ι4 H4 p4 t4⟩⟩
        split at e2
        · cases e2
        · rename_i σ4 h4 e4
          refine core _ _ e4 fun ι4 H4 p4 t4 => ?_
          exact fun ι5 τ5 H5 p5 S5 t5 => ⟨ι5, σ4, h4, p2.trans (p4.trans p5), S5, ((t2.trans t3).trans t4).trans t5, e2, (q2.step (p4.trans p5) ((t3.trans t4).trans t5))⟩
        · rename_i σ4 h4 e4
          refine core _ _ e4 fun ι4 H4 p4 t4 => ?_
          exact fun ι5 τ5 H5 p5 S5 t5 => ⟨ι5, σ4, h4, p2.trans (p4.trans p5), S5, ((t2.trans t3).trans t4).trans t5, e2, (q2.step (p4.trans p5) ((t3.trans t4).trans t5))⟩
        · rename_i σ4 h4 e4
          cases e2
          refine core _ _ e4 fun ι4 H4 p4 t4 => ?_
          exact PstS.step q2 p4 (t3.trans t4)
        · rename_i d4 h4 e4
          cases e2
          refine core _ _ e4 fun ι4 H4 p4 t4 => ?_
          exact Pst.step q2 p4 (t3.trans t4)
/-! ### while -/
def whileL (c : Ev → M Bool) (g : Ev → M Fl) : Nat → Ev → M Fl
  | 0, _ => fun _ => none
  | k + 1, σ => fun h => match c σ h with
    | none => none
    | some (false, h1) => some (.nx σ, h1)
    | some (true, h1) => match g σ h1 with
      | none => none
      | some (.nx σ', h') => whileL c g k σ' h'
      | some (.ct σ', h') => whileL c g k σ' h'
      | some (.bk σ', h') => some (.nx σ', h')
      | some (.rt d, h') => some (.rt d, h')
theorem ds_while (k : Nat) {c : Expr} {tc : Ev → M Bool} (hc : DT X c tc) (hb : DSs X body g) (hp : PassesOwn (model X.prog X.w) X.A X.env X.xe := by exact PassesOwn.never) : DS X (.While c body [] pos) (fun σ => whileL tc g k σ) := PS.le (ps_while hp hc hb) fun D τ H ⟨ι, σ, h, r, h', S, ev, q⟩ => by
  refine ⟨fun m τ2 H2 => ∃ ι2 σ2 h2, RelS X.K ι2 σ2 h2 τ2 H2 ∧ whileL tc g m σ2 h2 = some (r, h') ∧ EndsOk X.K ι2 H2 r h' D, ⟨k, ι, σ, h, S, ev, q⟩, ?_⟩
  rintro m τ2 H2 ⟨ι2, σ2, h2, S2, e2, q2⟩
  cases m with
  | zero => simp only [whileL] at e2; cases e2
  | succ m =>
    simp only [whileL] at e2
    split at e2
    · cases e2
    · rename_i h3 e3
      cases e2
      refine ⟨ι2, σ2, h2, false, _, S2, e3, fun ι3 H3 p3 R3 t3 => ?_⟩
      exact iteF ((PstS.step q2 p3 t3).now (S2.step p3 R3 t3))
    · rename_i h3 e3
      refine ⟨ι2, σ2, h2, true, h3, S2, e3, fun ι3 H3 p3 R3 t3 => ?_⟩
      refine iteT ?_
      have S3 := S2.step p3 R3 t3
      have q3 := q2.step p3 t3
      refine ⟨fun τ4 H4 => ∃ ι4 σ4 h4, RelS X.K ι4 σ4 h4 τ4 H4 ∧ whileL tc g m σ4 h4 = some (r, h') ∧ EndsOk X.K ι4 H4 r h' D, ?_, ?_⟩
      · rintro τ4 H4 ⟨ι4, σ4, h4, a1, a2, a3⟩
        exact ⟨m, Nat.lt_succ_self _, ι4, σ4, h4, a1, a2, a3⟩
      · split at e2
        · cases e2
        · rename_i σ4 h4 e4
          exact ⟨ι3, σ2, h3, _, h4, S3, e4, fun ι5 τ5 H5 p5 S5 t5 => ⟨ι5, σ4, h4, S5, e2, q3.step p5 t5⟩⟩
        · rename_i σ4 h4 e4
          exact ⟨ι3, σ2, h3, _, h4, S3, e4, fun ι5 τ5 H5 p5 S5 t5 => ⟨ι5, σ4, h4, S5, e2, q3.step p5 t5⟩⟩
        · rename_i σ4 h4 e4
          cases e2
          exact ⟨ι3, σ2, h3, _, _, S3, e4, q3⟩
        · rename_i d4 h4 e4
          cases e2
          exact ⟨ι3, σ2, h3, _, _, S3, e4, q3⟩
end
end Dt

set_option Elab.async false
set_option linter.all false
set_option autoImplicit false
set_option maxRecDepth 100000
/-! DtE: comprehensions, calls, fields, methods. -/
namespace Dt
open PySem PySem.Spec PyProof.Rows L2

/-! ### [e for t in s if c] -/
def wipeD (σ : Ev) : List Nat → Ev
  | [] => σ
  | v :: vs => (wipeD σ vs).set v none
theorem REnv.wipe {K : PySem.W.Frag} {H : Hp} {ι : List Addr} {σ : Ev} {τ : L2.St} (r : REnv K H ι σ τ) : ∀ vs : List Nat, REnv K H ι (wipeD σ vs) (L2.wipe τ vs)
  | [] => r
  | v :: vs => by
    have ih := REnv.wipe r vs
    refine ⟨by show ((wipeD σ vs).set v none).length = ((L2.wipe τ vs).set v none).length; rw [List.length_set, List.length_set]; exact ih.len, fun j d e => ?_⟩
    have e' : ((wipeD σ vs).set v none)[j]? = some (some d) := e
    show ∃ w, ((L2.wipe τ vs).set v none)[j]? = some (some w) ∧ _
    by_cases hj : v = j
    · subst hj
      have hv : v < (wipeD σ vs).length := by
        have := (List.getElem?_eq_some_iff.mp e').1
        rwa [List.length_set] at this
      rw [List.getElem?_set_self hv] at e'
      cases e'
    · rw [List.getElem?_set_ne hj] at e' ⊢
      exact ih.at_ j d e'
theorem wipe_out' {τ τ' : L2.St} : ∀ {vs : List Nat}, OutS vs τ τ' → L2.wipe τ' vs = L2.wipe τ vs := by
  intro vs O
  apply List.ext_getElem?
  intro j
  by_cases hj : j ∈ vs
  · -- both are none there, or out of both
    have key : ∀ (ρ : L2.St) (ws : List Nat), j ∈ ws → (L2.wipe ρ ws)[j]? = if j < ρ.length then some none else none := by
      intro ρ ws
      induction ws with
      | nil => intro h; cases h
      | cons v ws ih =>
        intro h
        show ((L2.wipe ρ ws).set v none)[j]? = _
        by_cases hv : v = j
        · subst hv
          by_cases hl : v < (L2.wipe ρ ws).length
          · rw [List.getElem?_set_self hl, if_pos (by rwa [L2.wipe_length] at hl)]
          · rw [List.getElem?_eq_none (by rw [List.length_set]; exact Nat.le_of_not_lt hl), if_neg (by rwa [L2.wipe_length] at hl)]
        · rw [List.getElem?_set_ne hv]
          rcases List.mem_cons.mp h with z | z
          · exact absurd z.symm hv
          · exact ih z
    rw [key τ' vs hj, key τ vs hj, O.1]
  · rw [L2.wipe_out hj, L2.wipe_out hj]
    exact O.2 j hj
theorem OutS.mono {own vs : List Nat} {τ τ' : L2.St} (O : OutS own τ τ') (h : ∀ i ∈ own, i ∈ vs) : OutS vs τ τ' := ⟨O.1, fun j hj => O.2 j fun z => hj (h j z)⟩

def compL (s : Src) (t : D → Ev → M Ev) (c : Ev → M Bool) (f : Ev → M D) (r : Nat) (σ : Ev) : Nat → Nat → M D
  | 0, _ => fun _ => none
  | k + 1, i => fun h => match s.item h i with
    | none => none
    | some none => some (.ref r, h)
    | some (some d) => match bnd (t d σ) (fun σ2 => bnd (c σ2) fun b => if b = true then bnd (f σ2) (fun y h4 => match h4[r]? with
        | some (.lst acc) => if acc.length < LIM then some ((), h4.set r (.lst (acc ++ [y]))) else none
        | _ => none) else ret ()) h with
      | none => none
      | some (_, h') => compL s t c f r σ k (i + 1) h'
def xComp (s : Ev → M Src) (t : D → Ev → M Ev) (c : Ev → M Bool) (f : Ev → M D) (vs : List Nat) : Ev → M D := fun σ => bnd (s σ) fun src h => compL src t c f h.length (wipeD σ vs) (src.fuel + 1) 0 (h ++ [.lst []])
def xYes : Ev → M Bool := fun _ => ret true
def DTs (X : Cx) (ifs : List Expr) (c : Ev → M Bool) : Prop := PTs X ifs (tDB X.K c)
section
variable {X : Cx} {elt tg iter : Expr} {ifs : List Expr} {scope : Scope} {own : List (Str × Nat)} {pos : Pos} {s : Ev → M Src} {t : D → Ev → M Ev} {c : Ev → M Bool} {f : Ev → M D} {ow : List Nat} {e : Expr}
theorem dts_nil : DTs X [] xYes := ⟨fun pins s τ H Q I ⟨ι, σ, h, d, h', S, ev, q⟩ => by
  cases ev
  exact pts_nil.run pins s τ H Q I (q ι H (List.prefix_refl _) S.hp TExt.rfl')⟩
theorem dts_one (h : DT X e c) : DTs X [e] c := pts_one h
theorem comp_le (K : PySem.W.Frag) (vs : List Nat) (hv : ∀ i ∈ ow, i ∈ vs) (τ : L2.St) (H : Hp) (Q : VK) (hw : tD K (xComp s t c f vs) τ H Q) : tLc (tDI K s) (tDG K ow t) (tDB K c) (tD K f) vs τ H Q := by
  obtain ⟨ι, σ, h, d, h', S, ev, q⟩ := hw
  obtain ⟨src, h1, e1, ev⟩ := bnd_some ev
  refine ⟨ι, σ, h, src, h1, S, e1, fun ι1 H1 J p1 R1 t1 ok => fun Da hD => ?_⟩
  have R0 : RelH K (ι1 ++ [Da]) (h1 ++ [.lst []]) (upd H1 Da (.lst [])) := R1.alloc hD ⟨[], upd_same, RDs.nil⟩
  have pre : ι1 <+: ι1 ++ [Da] := ⟨[Da], rfl⟩
  have rD : (ι1 ++ [Da])[h1.length]? = some Da := by rw [← R1.len]; simp
  refine ⟨fun i m H2 => ∃ ι2 h2, (ι1 ++ [Da]) <+: ι2 ∧ RelH K ι2 h2 H2 ∧ TExt K H1 H2 ∧ compL src t c f h1.length (wipeD σ vs) m i h2 = some (d, h') ∧ Pst K ι2 H2 d h' Q,
    ⟨src.fuel + 1, ι1 ++ [Da], h1 ++ [.lst []], List.prefix_refl _, R0, TExt.upd hD, ev, q.step (p1.trans pre) (t1.trans (TExt.upd hD))⟩, ?_⟩
  rintro i m H2 ⟨ι2, h2, p2, R2, t2, e2, q2⟩
  have rD2 : ι2[h1.length]? = some Da := getElem?_prefix p2 rD
  cases m with
  | zero => simp only [compL] at e2; cases e2
  | succ m =>
    simp only [compL] at e2
    have hk := ok ι2 h2 H2 i (pre.trans p2) R2 t2
    split at e2
    · cases e2
    · rename_i e3
      cases e2
      exact .inl ⟨hk.1 e3, q2.now R2 (RD.ref rD2)⟩
    · rename_i d1 e3
      obtain ⟨go, yl⟩ := hk.2 d1 e3
      refine .inr ⟨go, fun H3 => ∃ ι3 h3, (ι1 ++ [Da]) <+: ι3 ∧ RelH K ι3 h3 H3 ∧ TExt K H1 H3 ∧ compL src t c f h1.length (wipeD σ vs) m (i + 1) h3 = some (d, h') ∧ Pst K ι3 H3 d h' Q, ?_, fun v H3 y => ?_⟩
      · rintro H3 ⟨ι3, h3, a1, a2, a3, a4, a5⟩
        exact ⟨m, Nat.lt_succ_self _, ι3, h3, a1, a2, a3, a4, a5⟩
      · obtain ⟨R3, r3, t3⟩ := yl v H3 y
        have S3 : RelS K ι2 (wipeD σ vs) h2 (L2.wipe τ vs) H3 := ⟨R3, ((S.env.mono (p1.trans (pre.trans p2)) ((t1.trans t2).trans t3))).wipe vs⟩
        split at e2
        · cases e2
        · rename_i u h4 e4
          obtain ⟨σ3, h5, e5, e4⟩ := bnd_some e4
          obtain ⟨b, h6, e6, e4⟩ := bnd_some e4
          refine ⟨ι2, _, h2, d1, σ3, h5, S3, r3, e5, fun ι4 τ4 H4 p4 S4 t4 O4 => ⟨?_, ι4, σ3, h5, b, h6, S4, e6, fun ι5 H5 p5 R5 t5 => ?_⟩⟩
          · have w1 := wipe_out' (O4.mono hv)
            rw [w1]
            -- wiping twice is wiping once
            apply List.ext_getElem?
            intro j
            by_cases hj : j ∈ vs
            · have key : ∀ (ρ : L2.St) (ws : List Nat), j ∈ ws → (L2.wipe ρ ws)[j]? = if j < ρ.length then some none else none := by
                intro ρ ws
                induction ws with
                | nil => intro h; cases h
                | cons v ws ih =>
                  intro h
                  show ((L2.wipe ρ ws).set v none)[j]? = _
                  by_cases hv : v = j
                  · subst hv
                    by_cases hl : v < (L2.wipe ρ ws).length
                    · rw [List.getElem?_set_self hl, if_pos (by rwa [L2.wipe_length] at hl)]
                    · rw [List.getElem?_eq_none (by rw [List.length_set]; exact Nat.le_of_not_lt hl), if_neg (by rwa [L2.wipe_length] at hl)]
                  · rw [List.getElem?_set_ne hv]
                    rcases List.mem_cons.mp h with z | z
                    · exact absurd z.symm hv
                    · exact ih z
              rw [key _ vs hj, key _ vs hj, L2.wipe_length]
            · rw [L2.wipe_out hj]
          · have S5 := S4.step p5 R5 t5
            cases b with
            | false =>
              cases e4
              refine iteF ⟨ι5, _, p2.trans (p4.trans p5), R5, (((t2.trans t3).trans t4).trans t5), e2, (q2.step (p4.trans p5) ((t3.trans t4).trans t5))⟩
            | true =>
              refine iteT ?_
              obtain ⟨yv, h7, e7, e4⟩ := bnd_some (show bnd (f σ3) _ h6 = _ from e4)
              refine ⟨ι5, σ3, h6, yv, h7, S5, e7, fun ι6 vy H6 p6 R6 r6 t6 => ?_⟩
              split at e4
              · rename_i acc e8
                split at e4
                · rename_i hz
                  cases e4
                  have rD6 : ι6[h1.length]? = some Da := getElem?_prefix (p4.trans (p5.trans p6)) rD2
                  obtain ⟨ws, s6, rs6⟩ := R6.ok _ _ _ e8 rD6
                  refine ⟨ws, s6, by rw [← rs6.length]; exact Nat.lt_of_lt_of_le hz (lim_line (Nat.le_refl _)), ?_⟩
                  have tw : TExt K H6 (upd H6 Da (.lst (ws ++ [vy]))) := TExt.write s6 rfl
                  refine ⟨ι6, _, p2.trans (p4.trans (p5.trans p6)), R6.write (c := .lst (acc ++ [yv])) e8 rfl rD6 ⟨ws ++ [vy], upd_same, (rs6.append (RDs.cons r6 RDs.nil)).mono (List.prefix_refl _) tw⟩ rfl, ((((t2.trans t3).trans t4).trans t5).trans t6).trans tw, e2, ?_⟩
                  exact (q2.step (p4.trans (p5.trans p6)) (((t3.trans t4).trans t5).trans t6)).step (List.prefix_refl _) tw
                · cases e4
              · cases e4
/-- as a value -/
theorem de_comp (hc : X.calm = true) (hN : X.N.Nodup) (hi : DI X tg iter s) (ok : BlkOk X.N X.env.scope scope own) (hv : ∀ i ∈ ow, i ∈ own.map (·.2))
    (hg : ∀ (s : Shared) (H : Hp) (C : Addr) (cl : List (Str × Addr)) (fp : List Addr), DG (X.blk s H scope (compEnvC scope cl C X.env) fp) tg ow t) (ht : ∀ (s : Shared) (H : Hp) (C : Addr) (cl : List (Str × Addr)) (fp : List Addr), DTs (X.blk s H scope (compEnvC scope cl C X.env) fp) ifs c)
    (he : ∀ (s : Shared) (H : Hp) (C : Addr) (cl : List (Str × Addr)) (fp : List Addr), DE (X.blk s H scope (compEnvC scope cl C X.env) fp) elt f) (hs : ∀ x, foldedSetIterable iter X.env x = pure x := by intro _; rfl) :
    DE X (.ListComp elt [⟨tg, iter, ifs, 0⟩] scope pos) (xComp s t c f (own.map (·.2))) := PE.le (pe_lc (g := tDG X.K ow t) (tt := tDB X.K c) (te := tD X.K f) hc hN hi ok hg ht he hs) fun τ H Q hw => comp_le X.K _ hv τ H Q hw
/-- name = [..] on one line -/
theorem ds_setComp (i : Nat) {y : Str} {py spos : Pos} (hc : X.calm = true) (hN : X.N.Nodup) (hsw : swapsWith (.ListComp elt [⟨tg, iter, ifs, 0⟩] scope pos) (some (.Name y py)) spos.line X.env = pure true) (hi : DI X tg iter s) (ok : BlkOk X.N X.env.scope scope own) (hv : ∀ i ∈ ow, i ∈ own.map (·.2))
    (hg : ∀ (s : Shared) (H : Hp) (C : Addr) (cl : List (Str × Addr)) (fp : List Addr), DG (X.blk s H scope (compEnvC scope cl C X.env) fp) tg ow t) (ht : ∀ (s : Shared) (H : Hp) (C : Addr) (cl : List (Str × Addr)) (fp : List Addr), DTs (X.blk s H scope (compEnvC scope cl C X.env) fp) ifs c)
    (he : ∀ (s : Shared) (H : Hp) (C : Addr) (cl : List (Str × Addr)) (fp : List Addr), DE (X.blk s H scope (compEnvC scope cl C X.env) fp) elt f) (hy : X.N[i]? = some y := by rfl) (hyl : X.env.scope.names.lookup y = some .local := by rfl) (hs : ∀ x, foldedSetIterable iter X.env x = pure x := by intro _; rfl) :
    DS X (.Assign [.Name y py] (.ListComp elt [⟨tg, iter, ifs, 0⟩] scope pos) spos) (xAsg (xComp s t c f (own.map (·.2))) (gSet i)) := PS.le (ps_setLc (g := tDG X.K ow t) (tt := tDB X.K c) (te := tD X.K f) hc hN hy hyl hsw hi ok hg ht he hs) fun D τ H ⟨ι, σ, h, r, h', S, ev, q⟩ => by
  obtain ⟨x, h1, e1, ev⟩ := bnd_some ev
  obtain ⟨σ1, h2, e2, ev⟩ := bnd_some ev
  cases ev
  cases e2
  exact comp_le X.K _ hv τ H _ ⟨ι, σ, h, x, _, S, e1, fun ι1 v1 H1 p1 R1 r1 t1 => q ι1 _ H1 p1 ⟨R1, (S.env.mono p1 t1).set r1 i⟩ t1⟩
end
end Dt

set_option Elab.async false
set_option linter.all false
set_option autoImplicit false
set_option maxRecDepth 100000
/-! DtF: defs and their calls, instances, built-ins. -/
namespace Dt
open PySem PySem.Spec PyProof.Rows L2

/-! ### what a def does -/
def spD (K : PySem.W.Frag) (n : Nat) (F : List D → M D) : Sp := fun vs H Q _ => ∃ (ι : List Addr) (h : Hd) (ds : List D) (d : D) (h' : Hd), RelH K ι h H ∧ RDs K H ι ds vs ∧ ds.length = n ∧ F ds h = some (d, h') ∧ Pst K ι H d h' Q
def startD (N : Nat) (ds : List D) : Ev := ds.map some ++ List.replicate (N - ds.length) none
/-- a body run at its arguments: n of them, N names -/
def runD (n N : Nat) (g : Ev → M Fl) : List D → M D := fun ds h => if ds.length = n then match g (startD N ds) h with
  | some (.rt d, h') => some (d, h')
  | some (.nx _, h') => some (.non, h')
  | _ => none else none
def LenOk (n : Nat) (F : List D → M D) : Prop := ∀ ds h r, F ds h = some r → ds.length = n
theorem runD_len {n N : Nat} {g : Ev → M Fl} : LenOk n (runD n N g) := fun ds h r e => by
  unfold runD at e
  split at e
  · assumption
  · cases e
theorem start_env {K : PySem.W.Frag} {H : Hp} {ι : List Addr} (N : List Str) : ∀ {ds : List D} {vs : List V}, RDs K H ι ds vs → REnv K H ι (startD N.length ds) (L2.start N vs) := fun {ds vs} r => by
  unfold startD L2.start
  have hl := r.length
  refine ⟨by rw [List.length_append, List.length_append, List.length_map, List.length_map, List.length_replicate, List.length_replicate, hl], fun i d e => ?_⟩
  by_cases hi : i < ds.length
  · rw [List.getElem?_append_left (by simpa using hi), List.getElem?_map] at e
    cases q : ds[i]? with
    | none => rw [q] at e; cases e
    | some d' =>
      rw [q] at e
      cases e
      obtain ⟨v, e1, r1⟩ := r.get q
      refine ⟨v, ?_, r1⟩
      rw [List.getElem?_append_left (by rw [List.length_map, ← hl]; exact hi), List.getElem?_map, e1]
      rfl
  · rw [List.getElem?_append_right (by simpa using hi), List.getElem?_replicate] at e
    split at e <;> cases e
section
variable {P : Program} {w : World} {K : PySem.W.Frag} {mg : Str → Option Value} {base : Heap} {x qual : Str} {params : Arguments} {body : List Stmt} {scope : Scope} {dvs : List V} {kws : List (Str × V)} {f : Addr} {fd : FuncData}
/-- THE RULE for a def -/
theorem fnD {N ps : List Str} {k : Nat} {g : Ev → M Fl} (F : FunD K x qual params body scope dvs kws f fd) (S : FnScope N ps scope)
    (hb : ∀ (cdv : Value) (A : Around) (outer : List Env) (s : Shared) (H : Hp) (E : XK), Room k (A.deeper (envOfC qual scope s.heap.objs.size f cdv)) → DSs (cxOf CX0 P w K mg base N qual scope f cdv A outer s H E).nox body g) :
    FnOk P w K mg base CX0 (k + 1) f fd ps (spD K ps.length (runD ps.length N.length g)) := by
  refine F.ok S (fun vs H Q E ⟨ι, h, ds, d, h', R, r, l, _⟩ => r.length.symm.trans l) fun cdv A outer s H vs Q E hr ⟨ι, h, ds, d, h', R, r, l, ev, q⟩ => ⟨_, (hb cdv A outer s H E hr).nox, ?_⟩
  unfold runD at ev
  rw [if_pos l] at ev
  split at ev
  · rename_i d' h2 e
    cases ev
    exact ⟨ι, _, h, _, _, ⟨R, start_env N r⟩, e, q⟩
  · rename_i σ' h2 e
    cases ev
    exact ⟨ι, _, h, _, _, ⟨R, start_env N r⟩, e, fun ι' τ' H' p S t => q ι' .non H' p S.hp RD.non t⟩
  · cases ev
end
section
variable {X : Cx} {k n : Nat} {f C : Addr} {fd : FuncData} {ps : List Str} {Fm : List D → M D} {dds : List D} {dvs : List V} {ds : List Value} {x m : Str} {p pos apos : Pos} {e o : Expr} {es : List Expr} {g : Ev → M D} {fs : Ev → M (List D)}
def xCall (F : List D → M D) (dds : List D) (fs : Ev → M (List D)) : Ev → M D := fun σ => bnd (fs σ) fun xs => F (xs ++ dds)
/-- f(e, ..) -/
theorem de_call (F : FnOk X.prog X.w X.K X.mg X.base CX0 k f fd ps (spD X.K n Fm)) (hr : Room k X.A) (hg : Gl X x) (hm : X.mg x = some (.ref f)) (hk : PySem.W.keepIn X.K (.ref f) = true) (hb : Binds X.K fd ps ds) (hd : Vals dvs ds) (hdd : ∀ H ι, RDs X.K H ι dds dvs) (hl : LenOk n Fm)
    (ha : DA X (e :: es) fs) (hdb : (x == ("__debug__" : Str)) = false := by decide) (he : starEach (e :: es) X.env = (false, eval e X.env) :: starEach es X.env := by rfl) (hpl : (backTo pos (starEach es X.env)).any (·.1) = false := by rfl) :
    DE X (.Call (.Name x p) (e :: es) [] pos) (xCall Fm dds fs) := PE.le (pe_call F hr hg hm hk hb hd pass0 ha hdb he hpl) fun τ H Q ⟨ι, σ, h, d, h', S, ev, q⟩ => by
  obtain ⟨xs, h1, e1, ev⟩ := bnd_some ev
  exact ⟨ι, σ, h, xs, h1, S, e1, fun ι1 vs H1 p1 R1 r1 t1 => ⟨ι1, h1, xs ++ dds, d, h', R1, r1.append (hdd _ _), hl _ _ _ ev, ev, q.step p1 t1⟩⟩
theorem de_call0 (F : FnOk X.prog X.w X.K X.mg X.base CX0 k f fd ps (spD X.K n Fm)) (hr : Room k X.A) (hg : Gl X x) (hm : X.mg x = some (.ref f)) (hk : PySem.W.keepIn X.K (.ref f) = true) (hb : Binds X.K fd ps ds) (hd : Vals dvs ds) (hdd : ∀ H ι, RDs X.K H ι dds dvs) (hl : LenOk n Fm)
    (hdb : (x == ("__debug__" : Str)) = false := by decide) : DE X (.Call (.Name x p) [] [] pos) (xCall Fm dds xNil) := PE.le (pe_call0 F hr hg hm hk hb hd pass0 hdb) fun τ H Q ⟨ι, σ, h, d, h', S, ev, q⟩ => by
  obtain ⟨xs, h1, e1, ev⟩ := bnd_some ev
  cases e1
  exact ⟨ι, h, dds, d, h', S.hp, hdd _ _, hl _ _ _ ev, ev, q⟩

/-! ### instances -/
def lookF (k : String) : List (String × D) → Option D
  | [] => none
  | p :: r => if p.1 = k then some p.2 else lookF k r
def putFD (k : String) (d : D) : List (String × D) → List (String × D)
  | [] => [(k, d)]
  | p :: r => if p.1 = k then (p.1, d) :: r else p :: putFD k d r
theorem lookF_ok {K : PySem.W.Frag} {H : Hp} {ι : List Addr} {k : String} : ∀ {fs : List (String × D)} {vs : List (Str × V)}, RFs K H ι fs vs → (∀ d, lookF k fs = some d → ∃ v, vs.lookup (Str.ofString k) = some v ∧ RD K H ι d v) ∧ (lookF k fs = none → vs.lookup (Str.ofString k) = none)
  | [], vs, r => by
    have : vs = [] := r
    subst this
    exact ⟨fun d e => by simp [lookF] at e, fun _ => rfl⟩
  | p :: fs, vs, r => by
    obtain ⟨v, w, rfl, r1, r2⟩ := r
    obtain ⟨i1, i2⟩ := lookF_ok (k := k) r2
    by_cases hk : p.1 = k
    · have hb : (Str.ofString k == Str.ofString p.1) = true := by rw [beq_iff_eq, hk]
      refine ⟨fun d e => ?_, fun e => ?_⟩
      · simp only [lookF, if_pos hk] at e; cases e
        exact ⟨v, by simp only [List.lookup, hb], r1⟩
      · simp only [lookF, if_pos hk] at e; cases e
    · have hb : (Str.ofString k == Str.ofString p.1) = false := by rw [ofString_beq, beq_eq_false_iff_ne]; exact fun z => hk z.symm
      refine ⟨fun d e => ?_, fun e => ?_⟩
      · simp only [lookF, if_neg hk] at e
        obtain ⟨u, h1, h2⟩ := i1 d e
        exact ⟨u, by simp only [List.lookup, hb]; exact h1, h2⟩
      · simp only [lookF, if_neg hk] at e
        simp only [List.lookup, hb]; exact i2 e
theorem RFs.put {K : PySem.W.Frag} {H : Hp} {ι : List Addr} {k : String} {d : D} {v : V} (rd : RD K H ι d v) : ∀ {fs : List (String × D)} {vs : List (Str × V)}, RFs K H ι fs vs → RFs K H ι (putFD k d fs) (putF (Str.ofString k) v vs)
  | [], vs, r => by
    have : vs = [] := r
    subst this
    exact ⟨v, [], rfl, rd, rfl⟩
  | p :: fs, vs, r => by
    obtain ⟨u, w, rfl, r1, r2⟩ := r
    by_cases hk : p.1 = k
    · simp only [putFD, if_pos hk, putF]
      rw [if_pos (by rw [hk])]
      exact ⟨v, w, rfl, rd, r2⟩
    · simp only [putFD, if_neg hk, putF]
      rw [if_neg fun z => hk (ofString_inj z)]
      exact ⟨u, _, rfl, r1, RFs.put rd r2⟩
theorem RFs.length {K : PySem.W.Frag} {H : Hp} {ι : List Addr} : ∀ {fs : List (String × D)} {vs : List (Str × V)}, RFs K H ι fs vs → fs.length = vs.length
  | [], vs, r => by rw [show vs = [] from r]; rfl
  | p :: fs, vs, r => by
    obtain ⟨u, w, rfl, r1, r2⟩ := r
    rw [List.length_cons, List.length_cons, RFs.length r2]
/-- classes that are plain and have no attribute of their own by that name -/
def ClsF (K : PySem.W.Frag) (cs : List String) (nm : String) : Prop := ∀ c ∈ cs, Cls K (He.ga K (Str.ofString c)) ∧ NoAttr K (He.ga K (Str.ofString c)) (Str.ofString nm)
def fldM (cs : List String) (nm : String) (x : D) : M D := fun h => match x with
  | .ref n => match h[n]? with
    | some (.ins c fs) => if c ∈ cs then match lookF nm fs with
      | some d => some (d, h)
      | none => none else none
    | _ => none
  | _ => none
/-- o.nm -/
theorem de_fld {nm : String} {cs : List String} (hc : ClsF X.K cs nm) (ho : DE X o g) (hb : attributeBase o (Str.ofString nm) X.env (eval o X.env) = eval o X.env := by rfl) : DE X (.Attribute o (Str.ofString nm) pos) (xUn (fldM cs nm) g) := PE.le (pe_fld ho hb) fun τ H Q ⟨ι, σ, h, d, h', S, ev, q⟩ => by
  obtain ⟨x, h1, e1, ev⟩ := bnd_some ev
  refine ⟨ι, σ, h, x, h1, S, e1, fun ι1 v1 H1 p1 R1 r1 t1 => ?_⟩
  unfold fldM at ev
  split at ev
  · split at ev
    · rename_i c fs e2
      split at ev
      · rename_i hcs
        split at ev
        · rename_i d' e3
          cases ev
          obtain ⟨a, dx, vs, rfl, _, s, rs⟩ := R1.ins e2 r1
          obtain ⟨v, e4, r4⟩ := (lookF_ok rs).1 _ e3
          exact ⟨a, _, dx, vs, v, rfl, s, (hc c hcs).1, (hc c hcs).2, e4, (q.step p1 t1).now R1 r4⟩
        · cases ev
      · cases ev
    · cases ev
  · cases ev
def setFM (cs : List String) (nm : String) (x d : D) : M Unit := fun h => match x with
  | .ref n => match h[n]? with
    | some (.ins c fs) => if c ∈ cs ∧ fs.length < 500 then some ((), h.set n (.ins c (putFD nm d fs))) else none
    | _ => none
  | _ => none
theorem setFM_ok {K : PySem.W.Frag} {ι : List Addr} {h h' : Hd} {H : Hp} {cs : List String} {nm : String} {x d : D} {vx v : V} {σ : Ev} {τ : L2.St} {N : L2.St → Hp → Prop} {u : Unit} (hc : ClsF K cs nm) (S : RelS K ι σ h τ H) (rx : RD K H ι x vx) (rd : RD K H ι d v) (ev : setFM cs nm x d h = some (u, h')) (q : PstS K ι H σ h' N) :
    ∃ a c dx fs, c ∈ cs ∧ vx = .ref a ∧ H a = some (.ins (He.ga K (Str.ofString c)) dx fs) ∧ Cls K (He.ga K (Str.ofString c)) ∧ NoAttr K (He.ga K (Str.ofString c)) (Str.ofString nm) ∧ fs.length < 1000 ∧ N τ (upd H a (.ins (He.ga K (Str.ofString c)) dx (putF (Str.ofString nm) v fs))) := by
  unfold setFM at ev
  split at ev
  · rename_i n
    split at ev
    · rename_i c fs e2
      split at ev
      · rename_i hcs
        cases ev
        obtain ⟨a, dx, vs, rfl, i, s, rs⟩ := S.hp.ins e2 rx
        have tw : TExt K H (upd H a (.ins (He.ga K (Str.ofString c)) dx (putF (Str.ofString nm) v vs))) := TExt.write s rfl
        refine ⟨a, c, dx, vs, hcs.1, rfl, s, (hc c hcs.1).1, (hc c hcs.1).2, by rw [← rs.length]; have := hcs.2; omega, ?_⟩
        exact q ι τ _ (List.prefix_refl _) ⟨S.hp.write (c := .ins c (putFD nm d fs)) e2 rfl i ⟨dx, _, upd_same, (rs.put rd).mono (List.prefix_refl _) tw⟩ rfl, S.env.mono (List.prefix_refl _) tw⟩ tw
      · cases ev
    · cases ev
  · cases ev
/-- o.nm = e -/
def xSetF (cs : List String) (nm : String) (fo fv : Ev → M D) : Ev → M Fl := fun σ => bnd (fv σ) fun d => bnd (fo σ) fun x => bnd (setFM cs nm x d) fun _ => ret (.nx σ)
theorem ds_fld {nm : String} {cs : List String} {value : Expr} {pos' : Pos} {fv : Ev → M D} (hc : ClsF X.K cs nm) (ho : DE X o g) (hv : DE X value fv) (hs : swapsWith value (some (.Attribute o (Str.ofString nm) pos')) pos.line X.env = pure false := by rfl) : DS X (.Assign [.Attribute o (Str.ofString nm) pos'] value pos) (xSetF cs nm g fv) := PS.le (ps_fld ho hv hs) fun D τ H ⟨ι, σ, h, r, h', S, ev, q⟩ => by
  obtain ⟨d, h1, e1, ev⟩ := bnd_some ev
  obtain ⟨x, h2, e2, ev⟩ := bnd_some ev
  obtain ⟨u, h3, e3, ev⟩ := bnd_some ev
  cases ev
  exact ⟨ι, σ, h, d, h1, S, e1, fun ι1 v1 H1 p1 R1 r1 t1 => ⟨ι1, σ, h1, x, h2, S.step p1 R1 t1, e2, fun ι2 v2 H2 p2 R2 r2 t2 => by
    obtain ⟨a, c, dx, fs, _, k⟩ := setFM_ok hc ((S.step p1 R1 t1).step p2 R2 t2) r2 (r1.mono p2 t2) e3 (PstS.step q (p1.trans p2) (t1.trans t2))
    exact ⟨a, _, dx, fs, k⟩⟩⟩
/-- o.nm op= e -/
def clsM (x : D) : M String := fun h => match x with
  | .ref n => match h[n]? with
    | some (.ins c _) => some (c, h)
    | _ => none
  | _ => none
def xAugF (cs : List String) (nm : String) (op : D → D → M D) (fo fv : Ev → M D) : Ev → M Fl := fun σ => bnd (fo σ) fun x => bnd (clsM x) fun c => bnd (fldM cs nm x) fun v => bnd (fv σ) fun y => bnd (op v y) fun z => bnd (setFM [c] nm x z) fun _ => ret (.nx σ)
theorem ds_fldaug {nm : String} {cs : List String} {value : Expr} {tpos : Pos} {fv : Ev → M D} {op : Operator} {opM : D → D → M D} (hc : ClsF X.K cs nm) (ho : DE X o g) (hv : DE X value fv) (hop : OpD X (inplaceOp op) opM) : DS X (.AugAssign (.Attribute o (Str.ofString nm) tpos) op value pos) (xAugF cs nm opM g fv) := PS.le (ps_fldaug (rd := dynR X (inplaceOp op)) ho hv dyn_ok) fun D τ H ⟨ι, σ, h, r, h', S, ev, q⟩ => by
  obtain ⟨x, h1, e1, ev1⟩ := bnd_some ev
  obtain ⟨c, hc1, ec, ev2⟩ := bnd_some ev1
  obtain ⟨v0, h2, e2, ev3⟩ := bnd_some ev2
  obtain ⟨y, h3, e3, ev4⟩ := bnd_some ev3
  obtain ⟨z, h4, e4, ev5⟩ := bnd_some ev4
  obtain ⟨u, h5, e5, ev6⟩ := bnd_some ev5
  cases ev6
  clear ev ev1 ev2 ev3 ev4 ev5
  refine ⟨ι, σ, h, x, h1, S, e1, fun ι1 v1 H1 p1 R1 r1 t1 => ?_⟩
  unfold clsM at ec
  split at ec
  · rename_i n
    split at ec
    · rename_i c fs e6
      cases ec
      simp only [fldM, e6] at e2
      split at e2
      · rename_i hcs
        split at e2
        · rename_i d' e7
          cases e2
          obtain ⟨a, dx, vs, rfl, i, s, rs⟩ := R1.ins e6 r1
          obtain ⟨v, e8, r8⟩ := (lookF_ok rs).1 _ e7
          refine ⟨a, _, dx, vs, v, rfl, s, (hc c hcs).1, (hc c hcs).2, e8, ι1, σ, _, y, h3, S.step p1 R1 t1, e3, fun ι3 vy H3 p3 R3 r3 t3 => ?_⟩
          refine hop ι3 h3 H3 _ y z h4 v vy _ R3 (r8.mono p3 t3) r3 e4 fun ι4 vz H4 p4 R4 r4 t4 => ?_
          have S4 := ((S.step p1 R1 t1).step p3 R3 t3).step p4 R4 t4
          have rx : RD X.K H4 ι4 (.ref n) (.ref a) := RD.ref (getElem?_prefix (p3.trans p4) i)
          obtain ⟨a', c', dx', fs', hm, ea, k1, _, _, k4, k5⟩ := setFM_ok (fun c1 h1 => by rw [List.mem_singleton.mp h1]; exact hc c hcs) S4 rx r4 e5 (PstS.step q (p1.trans (p3.trans p4)) (t1.trans (t3.trans t4)))
          cases ea
          obtain rfl := List.mem_singleton.mp hm
          exact ⟨dx', fs', k1, k4, k5⟩
        · cases e2
      · cases e2
    · cases ec
  · cases ec
/-- o.m(e, ..), o an instance of the class c -/
def methM (c m : String) (x : D) : M Unit := fun h => match x with
  | .ref n => match h[n]? with
    | some (.ins c' fs) => if c' = c ∧ (lookF m fs).isNone = true then some ((), h) else none
    | _ => none
  | _ => none
theorem methM_ok {K : PySem.W.Frag} {ι : List Addr} {h h' : Hd} {H : Hp} {c m : String} {x : D} {vx : V} {u : Unit} (R : RelH K ι h H) (rx : RD K H ι x vx) (ev : methM c m x h = some (u, h')) : h' = h ∧ ∃ a dx fs, vx = .ref a ∧ H a = some (.ins (He.ga K (Str.ofString c)) dx fs) ∧ fs.lookup (Str.ofString m) = none := by
  unfold methM at ev
  split at ev
  · split at ev
    · rename_i c' fs e
      split at ev
      · rename_i hc
        cases ev
        obtain ⟨a, dx, vs, rfl, _, s, rs⟩ := R.ins e rx
        refine ⟨rfl, a, dx, vs, rfl, by rw [← hc.1]; exact s, (lookF_ok rs).2 (Option.isNone_iff_eq_none.mp hc.2)⟩
      · cases ev
    · cases ev
  · cases ev
def xMeth (c m : String) (F : List D → M D) (dds : List D) (fo : Ev → M D) (fs : Ev → M (List D)) : Ev → M D := fun σ => bnd (fo σ) fun x => bnd (methM c m x) fun _ => bnd (fs σ) fun xs => F (x :: (xs ++ dds))
theorem de_meth {c m : String} {pl : Sem Bool} (F : FnOk X.prog X.w X.K X.mg X.base CX0 k f fd ps (spD X.K n Fm)) (hr : Room k X.A) (cl : Cls X.K (He.ga X.K (Str.ofString c))) (hm : Meth X.K (He.ga X.K (Str.ofString c)) (Str.ofString m) f) (hb : Binds X.K fd ps ds) (hd : Vals dvs ds) (hdd : ∀ H ι, RDs X.K H ι dds dvs) (hl : LenOk n Fm)
    (ho : DE X o g) (ha : DA X (e :: es) fs) (hst : starEach (e :: es) X.env = (false, eval e X.env) :: starEach es X.env := by rfl) (hpl : (backTo pos (starEach es X.env)).any (·.1) = false := by rfl)
    (ht : eval (.Call (.Attribute o (Str.ofString m) apos) (e :: es) [] pos) X.env = (do
      let ov ← eval o X.env
      standAt apos.atName
      let (f, first) ← holding [ov] (getMethod ov (Str.ofString m) pl)
      callWith pos f first (backTo pos (starEach (e :: es) X.env)) (backToKw pos (keywordEach [] X.env))) := by rfl) :
    DE X (.Call (.Attribute o (Str.ofString m) apos) (e :: es) [] pos) (xMeth c m Fm dds g fs) := PE.le (pe_meth (pl := pl) ho cl hm F hr hb hd pass0 ha hst hpl ht) fun τ H Q ⟨ι, σ, h, d, h', S, ev, q⟩ => by
  obtain ⟨x, h1, e1, ev1⟩ := bnd_some ev
  obtain ⟨u, h2, e2, ev2⟩ := bnd_some ev1
  obtain ⟨xs, h3, e3, ev3⟩ := bnd_some ev2
  clear ev ev1 ev2
  refine ⟨ι, σ, h, x, h1, S, e1, fun ι1 v1 H1 p1 R1 r1 t1 => ?_⟩
  obtain ⟨rfl, a, dx, fs, rfl, s, l⟩ := methM_ok R1 r1 e2
  exact ⟨a, dx, fs, rfl, s, l, ι1, σ, _, xs, h3, S.step p1 R1 t1, e3, fun ι2 vs H2 p2 R2 r2 t2 => ⟨ι2, h3, x :: (xs ++ dds), d, h', R2, RDs.cons (r1.mono p2 t2) (r2.append (hdd _ _)), hl _ _ _ ev3, ev3, q.step (p1.trans p2) (t1.trans t2)⟩⟩
theorem de_meth0 {c m : String} {pl : Sem Bool} (F : FnOk X.prog X.w X.K X.mg X.base CX0 k f fd ps (spD X.K n Fm)) (hr : Room k X.A) (cl : Cls X.K (He.ga X.K (Str.ofString c))) (hm : Meth X.K (He.ga X.K (Str.ofString c)) (Str.ofString m) f) (hb : Binds X.K fd ps ds) (hd : Vals dvs ds) (hdd : ∀ H ι, RDs X.K H ι dds dvs) (hl : LenOk n Fm)
    (ho : DE X o g) (ht : eval (.Call (.Attribute o (Str.ofString m) apos) [] [] pos) X.env = (do
      let ov ← eval o X.env
      standAt apos.atName
      let (f, first) ← holding [ov] (getMethod ov (Str.ofString m) pl)
      callWith pos f first (backTo pos (starEach [] X.env)) (backToKw pos (keywordEach [] X.env))) := by rfl) :
    DE X (.Call (.Attribute o (Str.ofString m) apos) [] [] pos) (xMeth c m Fm dds g xNil) := PE.le (pe_meth0 (pl := pl) ho cl hm F hr hb hd pass0 ht) fun τ H Q ⟨ι, σ, h, d, h', S, ev, q⟩ => by
  obtain ⟨x, h1, e1, ev1⟩ := bnd_some ev
  obtain ⟨u, h2, e2, ev2⟩ := bnd_some ev1
  obtain ⟨xs, h3, e3, ev3⟩ := bnd_some ev2
  clear ev ev1 ev2
  cases e3
  refine ⟨ι, σ, h, x, h1, S, e1, fun ι1 v1 H1 p1 R1 r1 t1 => ?_⟩
  obtain ⟨rfl, a, dx, fs, rfl, s, l⟩ := methM_ok R1 r1 e2
  exact ⟨a, dx, fs, rfl, s, l, ι1, _, x :: ([] ++ dds), d, h', R1, RDs.cons r1 (hdd _ _), hl _ _ _ ev3, ev3, q.step p1 t1⟩
/-- C(e, ..) -/
def makeM (c : String) (F : List D → M D) (xs : List D) : M D := fun h => match F (.ref h.length :: xs) (h ++ [.ins c []]) with
  | some (.non, h') => some (.ref h.length, h')
  | _ => none
def xMake (c : String) (F : List D → M D) (dds : List D) (fs : Ev → M (List D)) : Ev → M D := fun σ => bnd (fs σ) fun xs => makeM c F (xs ++ dds)
theorem makeM_ok {K : PySem.W.Frag} {ι : List Addr} {h h' : Hd} {H : Hp} {c : String} {F : List D → M D} {xs : List D} {vs : List V} {d : D} {n : Nat} {Q : VK} (R : RelH K ι h H) (r : RDs K H ι xs vs) (hl : LenOk n F) (ev : makeM c F xs h = some (d, h')) (q : Pst K ι H d h' Q) (E : XK) :
    ∀ x dx, H x = none → H dx = none → dx ≠ x → spD K n F (.ref x :: vs) (upd (upd H dx (.own x)) x (.ins (He.ga K (Str.ofString c)) dx [])) (fun v H2 => v = .non ∧ Q (.ref x) H2) E := by
  intro x dx hx hdx hne
  unfold makeM at ev
  split at ev
  · rename_i h2 e
    cases ev
    have hx1 : upd H dx (.own x) x = none := by rw [upd_ne (Ne.symm hne)]; exact hx
    have t1 : TExt K H (upd H dx (.own x)) := TExt.upd hdx
    have R1 := R.fresh (o := .own x) hdx
    have t2 : TExt K (upd H dx (.own x)) (upd (upd H dx (.own x)) x (.ins (He.ga K (Str.ofString c)) dx [])) := TExt.upd hx1
    have R2 := R1.alloc (c := .ins c []) (o := .ins (He.ga K (Str.ofString c)) dx []) hx1 ⟨dx, [], upd_same, rfl⟩
    have pre : ι <+: ι ++ [x] := ⟨[x], rfl⟩
    have i : (ι ++ [x])[h.length]? = some x := by rw [← R.len]; simp
    refine ⟨ι ++ [x], h ++ [.ins c []], .ref h.length :: xs, .non, _, R2, RDs.cons (RD.ref i) (r.mono pre (t1.trans t2)), hl _ _ _ e, e, fun ι3 v H3 p3 R3 r3 t3 => ⟨r3.non_inv, ?_⟩⟩
    exact q ι3 _ H3 (pre.trans p3) R3 (RD.ref (getElem?_prefix p3 i)) ((t1.trans t2).trans t3)
  · cases ev
theorem de_make {c : String} (Mc : Mk X.K (He.ga X.K (Str.ofString c)) f) (F : FnOk X.prog X.w X.K X.mg X.base CX0 k f fd ps (spD X.K n Fm)) (hr : Room (k + 1) X.A) (hg : Gl X x) (hm : X.mg x = some (.ref (He.ga X.K (Str.ofString c)))) (hb : Binds X.K fd ps ds) (hd : Vals dvs ds) (hdd : ∀ H ι, RDs X.K H ι dds dvs) (hl : LenOk n Fm)
    (ha : DA X (e :: es) fs) (hdb : (x == ("__debug__" : Str)) = false := by decide) (he : starEach (e :: es) X.env = (false, eval e X.env) :: starEach es X.env := by rfl) (hpl : (backTo pos (starEach es X.env)).any (·.1) = false := by rfl) :
    DE X (.Call (.Name x p) (e :: es) [] pos) (xMake c Fm dds fs) := PE.le (pe_make Mc F hr hg hm hb hd pass0 ha hdb he hpl) fun τ H Q ⟨ι, σ, h, d, h', S, ev, q⟩ => by
  obtain ⟨xs, h1, e1, ev⟩ := bnd_some ev
  exact ⟨ι, σ, h, xs, h1, S, e1, fun ι1 vs H1 p1 R1 r1 t1 => makeM_ok R1 (r1.append (hdd _ _)) hl ev (q.step p1 t1) E0⟩
theorem de_make0 {c : String} (Mc : Mk X.K (He.ga X.K (Str.ofString c)) f) (F : FnOk X.prog X.w X.K X.mg X.base CX0 k f fd ps (spD X.K n Fm)) (hr : Room (k + 1) X.A) (hg : Gl X x) (hm : X.mg x = some (.ref (He.ga X.K (Str.ofString c)))) (hb : Binds X.K fd ps ds) (hd : Vals dvs ds) (hdd : ∀ H ι, RDs X.K H ι dds dvs) (hl : LenOk n Fm)
    (hdb : (x == ("__debug__" : Str)) = false := by decide) : DE X (.Call (.Name x p) [] [] pos) (xMake c Fm dds xNil) := PE.le (pe_make0 Mc F hr hg hm hb hd pass0 hdb) fun τ H Q ⟨ι, σ, h, d, h', S, ev, q⟩ => by
  obtain ⟨xs, h1, e1, ev⟩ := bnd_some ev
  cases e1
  exact makeM_ok S.hp (RDs.nil.append (hdd _ _)) hl ev q E0

/-! ### built-ins -/
def dynC (X : Cx) (f : Value) : List V → Hp → VK → Prop := fun vs H Q => ∃ r, CallR X f r ∧ r vs H Q
theorem dynC_ok {fv : Value} : CallR X fv (dynC X fv) := fun pins s σ H xs us Q I r ⟨_, hr, q⟩ => hr pins s σ H xs us Q I r q
def CallD (X : Cx) (fv : Value) (op : List D → M D) : Prop :=
  ∀ (ι : List Addr) (h : Hd) (H : Hp) (xs : List D) (d : D) (h' : Hd) (vs : List V) (Q : VK), RelH X.K ι h H → RDs X.K H ι xs vs → op xs h = some (d, h') → Pst X.K ι H d h' Q → ∃ r, CallR X fv r ∧ r vs H Q
def xB (op : List D → M D) (fs : Ev → M (List D)) : Ev → M D := fun σ => bnd (fs σ) op
theorem de_callB {id : String} {op : List D → M D} (hc : CallD X (.builtin id) op) (hg : Gl X x) (hm : X.mg x = none) (hv : bootBuiltins x = some (.builtin id)) (ha : DA X (e :: es) fs) (hn : x ≠ "__name__" := by decide) (hdb : (x == ("__debug__" : Str)) = false := by decide)
    (he : starEach (e :: es) X.env = (false, eval e X.env) :: starEach es X.env := by rfl) (hpl : (backTo pos (starEach es X.env)).any (·.1) = false := by rfl) : DE X (.Call (.Name x p) (e :: es) [] pos) (xB op fs) := PE.le (pe_callB dynC_ok hg hm hv ha hn hdb he hpl) fun τ H Q ⟨ι, σ, h, d, h', S, ev, q⟩ => by
  obtain ⟨xs, h1, e1, ev⟩ := bnd_some ev
  exact ⟨ι, σ, h, xs, h1, S, e1, fun ι1 vs H1 p1 R1 r1 t1 => hc ι1 h1 H1 xs d h' vs Q R1 r1 ev (q.step p1 t1)⟩
theorem de_callT {id : String} {op : List D → M D} (hc : CallD X (.type id) op) (hg : Gl X x) (hm : X.mg x = none) (hv : bootBuiltins x = some (.type id)) (ha : DA X (e :: es) fs) (hn : x ≠ "__name__" := by decide) (hdb : (x == ("__debug__" : Str)) = false := by decide)
    (he : starEach (e :: es) X.env = (false, eval e X.env) :: starEach es X.env := by rfl) (hpl : (backTo pos (starEach es X.env)).any (·.1) = false := by rfl) : DE X (.Call (.Name x p) (e :: es) [] pos) (xB op fs) := PE.le (pe_callTy dynC_ok hg hm hv ha hn hdb he hpl) fun τ H Q ⟨ι, σ, h, d, h', S, ev, q⟩ => by
  obtain ⟨xs, h1, e1, ev⟩ := bnd_some ev
  exact ⟨ι, σ, h, xs, h1, S, e1, fun ι1 vs H1 p1 R1 r1 t1 => hc ι1 h1 H1 xs d h' vs Q R1 r1 ev (q.step p1 t1)⟩
def lenM (xs : List D) : M D := fun h => match xs with
  | [x] => match itemsOf h x with
    | some ys => some (.int (ys.length : Nat), h)
    | none => match x with
      | .ref n => match h[n]? with
        | some (.dct kvs) => some (.int (kvs.length : Nat), h)
        | _ => none
      | _ => none
  | _ => none
theorem call_lenDK : CallR X (.builtin "len") (fun xs H Q => ∃ a kvs, xs = [.ref a] ∧ H a = some (.dK kvs) ∧ Q (.int (kvs.length : Nat)) H) := by
  intro pins s σ H xs us Q I r h
  obtain ⟨a, kvs, rfl, e, q⟩ := h
  obtain ⟨u, rfl, ru⟩ := vals1 r
  obtain rfl : u = Value.ref a := ru
  exact d_len I (.inl e) fun t s' I' => ⟨.int _, H, I', ⟨_, rfl⟩, q⟩
theorem c_len : CallD X (.builtin "len") lenM := by
  intro ι h H xs d h' vs Q R r ev q
  unfold lenM at ev
  split at ev
  · rename_i x
    obtain ⟨v, w, rfl, r1, r2⟩ := r.inv
    obtain rfl := r2.inv0
    split at ev
    · rename_i ys e0
      cases ev
      obtain ⟨a, ws, rfl, s, rs⟩ := itemsOf_ok R e0 r1
      refine ⟨_, call_len_seq, a, ws, rfl, s, q.now R ?_⟩
      rw [← rs.length]
      exact RD.int
    · split at ev
      · split at ev
        · rename_i kvs e1
          cases ev
          obtain ⟨a, ws, rfl, _, s, rs⟩ := R.dct e1 r1
          refine ⟨_, call_lenDK, a, ws, rfl, s, q.now R ?_⟩
          rw [← rs.length]
          exact RD.int
        · cases ev
      · cases ev
  · cases ev
def absM (xs : List D) : M D := fun h => match xs with
  | [.int i] => some (.int (if i < 0 then -i else i), h)
  | _ => none
theorem c_abs : CallD X (.builtin "abs") absM := by
  intro ι h H xs d h' vs Q R r ev q
  unfold absM at ev
  split at ev
  · obtain ⟨v, w, rfl, r1, r2⟩ := r.inv
    obtain rfl := r2.inv0
    obtain rfl := r1.int_inv
    cases ev
    exact ⟨_, call_abs, _, rfl, q.now R RD.int⟩
  · cases ev
def intM (xs : List D) : M D := fun h => match xs with
  | [.int i] => some (.int i, h)
  | [.bl b] => some (.int (if b then 1 else 0), h)
  | _ => none
theorem c_int : CallD X (.type "int") intM := by
  intro ι h H xs d h' vs Q R r ev q
  unfold intM at ev
  split at ev
  · obtain ⟨v, w, rfl, r1, r2⟩ := r.inv
    obtain rfl := r2.inv0
    obtain rfl := r1.int_inv
    cases ev
    exact ⟨_, call_int1, .inl ⟨_, rfl, q.now R RD.int⟩⟩
  · obtain ⟨v, w, rfl, r1, r2⟩ := r.inv
    obtain rfl := r2.inv0
    obtain rfl := r1.bl_inv
    cases ev
    exact ⟨_, call_int1, .inr ⟨_, rfl, q.now R RD.int⟩⟩
  · cases ev
def listM (xs : List D) : M D := fun h => match xs with
  | [x] => match itemsOf h x with
    | some ys => some (.ref h.length, h ++ [.lst ys])
    | none => none
  | _ => none
theorem c_list : CallD X (.type "list") listM := by
  intro ι h H xs d h' vs Q R r ev q
  unfold listM at ev
  split at ev
  · rename_i x
    obtain ⟨v, w, rfl, r1, r2⟩ := r.inv
    obtain rfl := r2.inv0
    split at ev
    · rename_i ys e0
      cases ev
      obtain ⟨a, ws, rfl, s, rs⟩ := itemsOf_ok R e0 r1
      exact ⟨_, call_list_of, a, ws, rfl, s, q.lst R rs⟩
    · cases ev
  · cases ev
def tupM (xs : List D) : M D := fun h => match xs with
  | [x] => match itemsOf h x with
    | some ys => some (.tup ys, h)
    | none => none
  | _ => none
theorem c_tuple : CallD X (.type "tuple") tupM := by
  intro ι h H xs d h' vs Q R r ev q
  unfold tupM at ev
  split at ev
  · rename_i x
    obtain ⟨v, w, rfl, r1, r2⟩ := r.inv
    obtain rfl := r2.inv0
    split at ev
    · rename_i ys e0
      cases ev
      obtain ⟨a, ws, rfl, s, rs⟩ := itemsOf_ok R e0 r1
      rcases s with s | s
      · exact ⟨_, call_tuple_of, a, ws, rfl, .inl ⟨s, q.tup R rs⟩⟩
      · exact ⟨_, call_tuple_of, a, ws, rfl, .inr ⟨s, q.now R (RD.tup s rs)⟩⟩
    · cases ev
  · cases ev
def intsOf : List D → Option (List Int)
  | [] => some []
  | .int i :: r => (intsOf r).map (i :: ·)
  | _ => none
theorem intsOf_eq : ∀ {xs : List D} {ns : List Int}, intsOf xs = some ns → xs = ns.map D.int
  | [], ns, e => by simp only [intsOf] at e; cases e; rfl
  | .int i :: r, ns, e => by
    simp only [intsOf] at e
    obtain ⟨ms, e1, rfl⟩ := Option.map_eq_some_iff.mp e
    rw [intsOf_eq e1]; rfl
  | .non :: _, _, e => by simp [intsOf] at e
  | .bl _ :: _, _, e => by simp [intsOf] at e
  | .str _ :: _, _, e => by simp [intsOf] at e
  | .tup _ :: _, _, e => by simp [intsOf] at e
  | .ref _ :: _, _, e => by simp [intsOf] at e
def maxI : List Int → Int
  | [] => 0
  | x :: r => r.foldl max x
def minI : List Int → Int
  | [] => 0
  | x :: r => r.foldl min x
theorem foldl_max : ∀ (r : List Int) (x : Int), (r.foldl max x = x ∨ r.foldl max x ∈ r) ∧ x ≤ r.foldl max x ∧ ∀ y ∈ r, y ≤ r.foldl max x
  | [], x => ⟨.inl rfl, Int.le_refl _, fun y hy => by cases hy⟩
  | z :: r, x => by
    obtain ⟨h1, h2, h3⟩ := foldl_max r (max x z)
    refine ⟨?_, ?_, ?_⟩
    · rcases h1 with h1 | h1
      · rw [List.foldl_cons, h1]
        by_cases hx : x ≤ z
        · rw [Int.max_eq_right hx]; exact .inr List.mem_cons_self
        · rw [Int.max_eq_left (by omega)]; exact .inl rfl
      · exact .inr (List.mem_cons_of_mem _ h1)
    · rw [List.foldl_cons]; omega
    · intro y hy
      rw [List.foldl_cons]
      rcases List.mem_cons.mp hy with rfl | hy
      · omega
      · exact h3 y hy
theorem foldl_min : ∀ (r : List Int) (x : Int), (r.foldl min x = x ∨ r.foldl min x ∈ r) ∧ r.foldl min x ≤ x ∧ ∀ y ∈ r, r.foldl min x ≤ y
  | [], x => ⟨.inl rfl, Int.le_refl _, fun y hy => by cases hy⟩
  | z :: r, x => by
    obtain ⟨h1, h2, h3⟩ := foldl_min r (min x z)
    refine ⟨?_, ?_, ?_⟩
    · rcases h1 with h1 | h1
      · rw [List.foldl_cons, h1]
        by_cases hx : x ≤ z
        · rw [Int.min_eq_left hx]; exact .inl rfl
        · rw [Int.min_eq_right (by omega)]; exact .inr List.mem_cons_self
      · exact .inr (List.mem_cons_of_mem _ h1)
    · rw [List.foldl_cons]; omega
    · intro y hy
      rw [List.foldl_cons]
      rcases List.mem_cons.mp hy with rfl | hy
      · omega
      · exact h3 y hy
def maxM (xs : List D) : M D := fun h => match xs with
  | [.int i, .int j] => some (.int (if j > i then j else i), h)
  | [x] => match listOf h x with
    | some ys => match intsOf ys with
      | some ns => if 0 < ns.length then some (.int (maxI ns), h) else none
      | none => none
    | none => none
  | _ => none
def minM (xs : List D) : M D := fun h => match xs with
  | [.int i, .int j] => some (.int (if j < i then j else i), h)
  | [x] => match listOf h x with
    | some ys => match intsOf ys with
      | some ns => if 0 < ns.length then some (.int (minI ns), h) else none
      | none => none
    | none => none
  | _ => none
theorem c_max (hc : X.calm = true) : CallD X (.builtin "max") maxM := by
  intro ι h H xs d h' vs Q R r ev q
  unfold maxM at ev
  split at ev
  · obtain ⟨v, w, rfl, r1, r2⟩ := r.inv
    obtain ⟨v', w', rfl, r3, r4⟩ := r2.inv
    obtain rfl := r4.inv0
    obtain rfl := r1.int_inv
    obtain rfl := r3.int_inv
    cases ev
    exact ⟨_, call_max2 hc, _, _, rfl, q.now R RD.int⟩
  · obtain ⟨v, w, rfl, r1, r2⟩ := r.inv
    obtain rfl := r2.inv0
    split at ev
    · rename_i ys e0
      split at ev
      · rename_i ns e1
        split at ev
        · rename_i hl
          cases ev
          obtain ⟨a, ws, rfl, s, rs⟩ := listOf_ok R e0 r1
          rw [intsOf_eq e1] at rs
          obtain rfl := rs.ints
          refine ⟨_, cr_max hc, a, ns, rfl, s, hl, fun m hm hy => ?_⟩
          have : m = maxI ns := by
            cases ns with
            | nil => cases hm
            | cons x r =>
              obtain ⟨h1, h2, h3⟩ := foldl_max r x
              have a1 : maxI (x :: r) ∈ x :: r := by
                rcases h1 with h1 | h1
                · show r.foldl max x ∈ _; rw [h1]; exact List.mem_cons_self
                · exact List.mem_cons_of_mem _ h1
              have a2 : m ≤ maxI (x :: r) := by
                rcases List.mem_cons.mp hm with rfl | hm
                · exact h2
                · exact h3 m hm
              have a3 := hy _ a1
              omega
          rw [this]
          exact q.now R RD.int
        · cases ev
      · cases ev
    · cases ev
  · cases ev
theorem c_min (hc : X.calm = true) : CallD X (.builtin "min") minM := by
  intro ι h H xs d h' vs Q R r ev q
  unfold minM at ev
  split at ev
  · obtain ⟨v, w, rfl, r1, r2⟩ := r.inv
    obtain ⟨v', w', rfl, r3, r4⟩ := r2.inv
    obtain rfl := r4.inv0
    obtain rfl := r1.int_inv
    obtain rfl := r3.int_inv
    cases ev
    exact ⟨_, call_min2 hc, _, _, rfl, q.now R RD.int⟩
  · obtain ⟨v, w, rfl, r1, r2⟩ := r.inv
    obtain rfl := r2.inv0
    split at ev
    · rename_i ys e0
      split at ev
      · rename_i ns e1
        split at ev
        · rename_i hl
          cases ev
          obtain ⟨a, ws, rfl, s, rs⟩ := listOf_ok R e0 r1
          rw [intsOf_eq e1] at rs
          obtain rfl := rs.ints
          refine ⟨_, cr_min hc, a, ns, rfl, s, hl, fun m hm hy => ?_⟩
          have : m = minI ns := by
            cases ns with
            | nil => cases hm
            | cons x r =>
              obtain ⟨h1, h2, h3⟩ := foldl_min r x
              have a1 : minI (x :: r) ∈ x :: r := by
                rcases h1 with h1 | h1
                · show r.foldl min x ∈ _; rw [h1]; exact List.mem_cons_self
                · exact List.mem_cons_of_mem _ h1
              have a2 : minI (x :: r) ≤ m := by
                rcases List.mem_cons.mp hm with rfl | hm
                · exact h2
                · exact h3 m hm
              have a3 := hy _ a1
              omega
          rw [this]
          exact q.now R RD.int
        · cases ev
      · cases ev
    · cases ev
  · cases ev
def sumM (xs : List D) : M D := fun h => match xs with
  | [x] => match listOf h x with
    | some ys => match intsOf ys with
      | some ns => some (.int ns.sum, h)
      | none => none
    | none => none
  | _ => none
theorem c_sum (hc : X.calm = true) : CallD X (.builtin "sum") sumM := by
  intro ι h H xs d h' vs Q R r ev q
  unfold sumM at ev
  split at ev
  · obtain ⟨v, w, rfl, r1, r2⟩ := r.inv
    obtain rfl := r2.inv0
    split at ev
    · rename_i ys e0
      split at ev
      · rename_i ns e1
        cases ev
        obtain ⟨a, ws, rfl, s, rs⟩ := listOf_ok R e0 r1
        rw [intsOf_eq e1] at rs
        obtain rfl := rs.ints
        exact ⟨_, cr_sum hc, a, ns, rfl, s, q.now R RD.int⟩
      · cases ev
    · cases ev
  · cases ev
/-- dict(d) -/
def dictM (xs : List D) : M D := fun h => match xs with
  | [.ref n] => match h[n]? with
    | some (.dct kvs) => some (.ref h.length, h ++ [.dct kvs])
    | _ => none
  | _ => none
theorem call_dictCopy : CallR X (.type "dict") (fun xs H Q => ∃ a kvs, xs = [.ref a] ∧ H a = some (.dK kvs) ∧ ∀ p, H p = none → Q (.ref p) (upd H p (.dK kvs))) := by
  intro pins s σ H xs us Q I r h
  obtain ⟨a, kvs, rfl, e, q⟩ := h
  obtain ⟨u, rfl, ru⟩ := vals1 r
  obtain rfl : u = Value.ref a := ru
  exact d_copyOf I (.inl e) fun p s' hp I' => ⟨.ref p, _, I', rfl, q p hp⟩
theorem Pst.dct {K : PySem.W.Frag} {ι : List Addr} {h : Hd} {H : Hp} {xs : List (Key × D)} {vs : List (Key × V)} {Q : VK} (R : RelH K ι h H) (rs : RKs K H ι xs vs) (q : Pst K ι H (.ref h.length) (h ++ [.dct xs]) Q) : ∀ p, H p = none → Q (.ref p) (upd H p (.dK vs)) := fun p hp =>
  q (ι ++ [p]) (.ref p) _ ⟨[p], rfl⟩ (R.alloc hp ⟨vs, upd_same, rs.mono ⟨[p], rfl⟩ (TExt.upd hp)⟩) (RD.ref (by rw [← R.len]; simp)) (TExt.upd hp)
theorem c_dict : CallD X (.type "dict") dictM := by
  intro ι h H xs d h' vs Q R r ev q
  unfold dictM at ev
  split at ev
  · obtain ⟨v, w, rfl, r1, r2⟩ := r.inv
    obtain rfl := r2.inv0
    split at ev
    · rename_i kvs e1
      cases ev
      obtain ⟨a, ws, rfl, _, s, rs⟩ := R.dct e1 r1
      exact ⟨_, call_dictCopy, a, ws, rfl, s, q.dct R rs⟩
    · cases ev
  · cases ev
def xDict0 : Ev → M D := fun _ h => some (.ref h.length, h ++ [.dct []])
theorem de_dict0 : DE X (.Dict [] [] pos) xDict0 := PE.le pe_dnewK fun τ H Q ⟨ι, σ, h, d, h', S, ev, q⟩ => by
  cases ev
  exact q.dct (xs := []) (vs := []) S.hp rfl
/-! ### isinstance -/
def isaT (a b : String) : Bool := a == b || (a == "bool" && b == "int")
def tyD (h : Hd) : D → Option String
  | .non => some "NoneType"
  | .bl _ => some "bool"
  | .int _ => some "int"
  | .str _ => some "str"
  | .tup _ => some "tuple"
  | .ref n => match h[n]? with
    | some (.lst _) => some "list"
    | some (.dct _) => some "dict"
    | _ => none
abbrev tyNames : List String := ["NoneType", "bool", "int", "str", "tuple", "list", "dict"]
theorem tyD_ok {K : PySem.W.Frag} {ι : List Addr} {h : Hd} {H : Hp} {x : D} {v : V} {n : String} (R : RelH K ι h H) (r : RD K H ι x v) (e : tyD h x = some n) : TyX K H v (.type n) ∧ n ∈ tyNames := by
  cases x with
  | non => cases e; rw [r.non_inv]; exact ⟨.base .non, by decide⟩
  | bl b => cases e; rw [r.bl_inv]; exact ⟨.base (.bl b), by decide⟩
  | int b => cases e; rw [r.int_inv]; exact ⟨.base (.int b), by decide⟩
  | str b => cases e; rw [r.str_inv]; exact ⟨.base (.str _), by decide⟩
  | tup xs =>
    cases e
    obtain ⟨a, vs, rfl, s, rs⟩ := r.tup_inv
    refine ⟨?_, by decide⟩
    rcases s with (s | ⟨o, s⟩) | ⟨o, its, m, k1, k2, _⟩
    · exact .base (.tup s)
    · exact .fTuple s
    · exact .kTuple k1 k2
  | ref m =>
    simp only [tyD] at e
    split at e
    · rename_i e0
      cases e
      obtain ⟨a, vs, rfl, _, s, rs⟩ := R.lst e0 r
      exact ⟨.base (.lst s), by decide⟩
    · rename_i e0
      cases e
      obtain ⟨a, vs, rfl, _, s, rs⟩ := R.dct e0 r
      exact ⟨.base (.dK s), by decide⟩
    · cases e
theorem kitB_all : (tyNames.all fun a => tyNames.all fun b => decide (kitB a b = some (isaT a b))) = true := by decide +kernel
theorem kitB_isa {a b : String} (ha : a ∈ tyNames) (hb : b ∈ tyNames) : kitB a b = some (isaT a b) :=
  of_decide_eq_true (List.all_eq_true.mp (List.all_eq_true.mp kitB_all a ha) b hb)
theorem kitAny_isa {K : PySem.W.Frag} {a : String} (ha : a ∈ tyNames) : ∀ {bs : List String}, (∀ b ∈ bs, b ∈ tyNames) → PySem.W.kitAny K (.type a) (bs.map Value.type) = some (bs.any fun b => isaT a b)
  | [], _ => kitAny_nil
  | b :: bs, hb => by
    have e := kit_ty (K := K) (kitB_isa ha (hb b List.mem_cons_self))
    have ih := kitAny_isa (K := K) (bs := bs) ha fun c hc => hb c (List.mem_cons_of_mem _ hc)
    refine kitAny_cons e (fun z => ?_) fun z => ?_
    · rw [ih, List.any_cons, z]; rfl
    · rw [List.any_cons, z]; rfl
/-- an expression that is a built-in type -/
def DTy (X : Cx) (e : Expr) (n : String) : Prop := PE X e (tC (.ty n))
theorem dty {x : Str} {n : String} {p : Pos} (hg : Gl X x) (hm : X.mg x = none) (hv : bootBuiltins x = some (.type n)) (hn : x ≠ "__name__" := by decide) (hd : (x == ("__debug__" : Str)) = false := by decide) : DTy X (.Name x p) n := pe_bltn (v := .ty n) hg hm hv rfl hn hd
inductive DTys (X : Cx) : List Expr → List String → Prop
  | nil : DTys X [] []
  | cons {e : Expr} {es : List Expr} {n : String} {ns : List String} (h : DTy X e n) (t : DTys X es ns) (hs : starEach (e :: es) X.env = (false, eval e X.env) :: starEach es X.env) : DTys X (e :: es) (n :: ns)
theorem DTys.pa : ∀ {es : List Expr} {ns : List String}, DTys X es ns → PA X es (fun _ H Q => Q (ns.map V.ty) H)
  | _, _, .nil => PA.le pa_nil fun _ _ _ h => h
  | _, _, .cons h t hs => PA.le (pa_cons h (DTys.pa t) hs) fun _ _ _ h => h
def isiM (ns : List String) (x : D) : M D := fun h => match tyD h x with
  | some a => some (.bl (ns.any fun b => isaT a b), h)
  | none => none
theorem de_isi1 {t : Expr} {n : String} (hg : Gl X "isinstance") (hm : X.mg "isinstance" = none) (ho : DE X o g) (ht : DTy X t n) (hn : n ∈ tyNames := by decide) (he : starEach [o, t] X.env = (false, eval o X.env) :: starEach [t] X.env := by rfl) (he2 : starEach [t] X.env = (false, eval t X.env) :: starEach [] X.env := by rfl) (hpl : (backTo pos (starEach [t] X.env)).any (·.1) = false := by rfl) :
    DE X (.Call (.Name "isinstance" p) [o, t] [] pos) (xUn (isiM [n]) g) := PE.le (pe_callB call_isi hg hm (by decide +kernel) (pa_cons ho (pa_cons ht pa_nil he2) he) (by decide) (by decide) he hpl) fun τ H Q ⟨ι, σ, h, d, h', S, ev, q⟩ => by
  obtain ⟨x, h1, e1, ev⟩ := bnd_some ev
  refine ⟨ι, σ, h, x, h1, S, e1, fun ι1 v1 H1 p1 R1 r1 t1 => ?_⟩
  unfold isiM at ev
  split at ev
  · rename_i a e2
    cases ev
    obtain ⟨ty, ha⟩ := tyD_ok R1 r1 e2
    exact ⟨v1, .ty n, .type a, .type n, _, rfl, .ty n, ty, kit_ty (kitB_isa ha hn), by simpa using (q.step p1 t1).now R1 RD.bl⟩
  · cases ev
theorem paired_ty : ∀ ns : List String, Paired ClsV (ns.map V.ty) (ns.map Value.type)
  | [] => .nil
  | n :: ns => .cons (.ty n) (paired_ty ns)
theorem de_isi {ts : List Expr} {ns : List String} {k1 : Nat} {tpos : Pos} (hg : Gl X "isinstance") (hm : X.mg "isinstance" = none) (ho : DE X o g) (ht : DTys X ts ns) (hn : ∀ b ∈ ns, b ∈ tyNames := by decide) (he : starEach [o, .Tuple ts k1 tpos] X.env = (false, eval o X.env) :: starEach [.Tuple ts k1 tpos] X.env := by rfl) (hpl : (backTo pos (starEach [.Tuple ts k1 tpos] X.env)).any (·.1) = false := by rfl) (hlen : ns.length ≤ 100 := by decide) :
    DE X (.Call (.Name "isinstance" p) [o, .Tuple ts k1 tpos] [] pos) (xUn (isiM ns) g) := PE.le (pe_callB call_isiT hg hm (by decide +kernel) (pa_cons ho (pa_cons (pe_tup ht.pa) pa_nil rfl) he) (by decide) (by decide) he hpl) fun τ H Q ⟨ι, σ, h, d, h', S, ev, q⟩ => by
  obtain ⟨x, h1, e1, ev⟩ := bnd_some ev
  refine ⟨ι, σ, h, x, h1, S, e1, fun ι1 v1 H1 p1 R1 r1 t1 => ?_⟩
  unfold isiM at ev
  split at ev
  · rename_i a e2
    cases ev
    obtain ⟨ty, ha⟩ := tyD_ok R1 r1 e2
    refine ⟨by rw [List.length_map]; exact lim_line (Nat.le_trans hlen (by decide)), fun p hp => ?_⟩
    have R2 := R1.fresh (o := .tup (ns.map V.ty)) hp
    have tx : TExt X.K H1 (upd H1 p (.tup (ns.map V.ty))) := TExt.upd hp
    obtain ⟨ty2, _⟩ := tyD_ok R2 (r1.mono (List.prefix_refl _) tx) e2
    exact ⟨v1, p, ns.map V.ty, .type a, ns.map Value.type, _, rfl, upd_same, paired_ty ns, ty2, kitAny_isa ha hn, q ι1 _ _ p1 R2 RD.bl (t1.trans tx)⟩
  · cases ev
/-! ### methods of built-in types -/
def dynMt (X : Cx) (id : String) : V → List V → Hp → VK → Prop := fun x vs H Q => ∃ r, MtR X id r ∧ r x vs H Q
theorem dynMt_ok {id : String} : MtR X id (dynMt X id) := fun pins s σ H x xs v us Q I rx r ⟨_, hr, q⟩ => hr pins s σ H x xs v us Q I rx r q
/-- o.append(e) -/
def appM (x y : D) : M D := fun h => match x with
  | .ref n => match h[n]? with
    | some (.lst xs) => if xs.length < LIM then some (.non, h.set n (.lst (xs ++ [y]))) else none
    | _ => none
  | _ => none
theorem Pst.wlst {K : PySem.W.Frag} {ι : List Addr} {h : Hd} {H : Hp} {n : Nat} {xs ys : List D} {a : Addr} {vs ws : List V} {d : D} {v : V} {Q : VK} (R : RelH K ι h H) (e : h[n]? = some (.lst xs)) (i : ι[n]? = some a) (s : H a = some (.lst vs)) (rs : RDs K H ι ys ws) (rd : RD K H ι d v) (q : Pst K ι H d (h.set n (.lst ys)) Q) : Q v (upd H a (.lst ws)) := by
  have tw : TExt K H (upd H a (.lst ws)) := TExt.write s rfl
  exact q ι v _ (List.prefix_refl _) (R.write (c := .lst ys) e rfl i ⟨ws, upd_same, rs.mono (List.prefix_refl _) tw⟩ rfl) (rd.mono (List.prefix_refl _) tw) tw
/-- is the value a list -/
def isLst (x : D) : M Unit := fun h => match x with
  | .ref n => match h[n]? with
    | some (.lst _) => some ((), h)
    | _ => none
  | _ => none
theorem isLst_ok {ι : List Addr} {h h' : Hd} {H : Hp} {x : D} {v : V} {u : Unit} (R : RelH X.K ι h H) (r : RD X.K H ι x v) (ev : isLst x h = some (u, h')) : h' = h ∧ ∃ a vs, v = .ref a ∧ H a = some (.lst vs) := by
  unfold isLst at ev
  split at ev
  · split at ev
    · rename_i xs e
      cases ev
      obtain ⟨a, vs, rfl, _, s, _⟩ := R.lst e r
      exact ⟨rfl, a, vs, rfl, s⟩
    · cases ev
  · cases ev
/-- a list's method with one argument, without arguments -/
def xLM (op : D → D → M D) (fo fe : Ev → M D) : Ev → M D := fun σ => bnd (fo σ) fun x => bnd (isLst x) fun _ => bnd (fe σ) fun y => op x y
def xLM0 (op : D → M D) (fo : Ev → M D) : Ev → M D := fun σ => bnd (fo σ) fun x => bnd (isLst x) fun _ => op x
def MtD (X : Cx) (id : String) (op : D → D → M D) : Prop := ∀ (ι : List Addr) (h : Hd) (H : Hp) (x y d : D) (h' : Hd) (vx vy : V) (Q : VK), RelH X.K ι h H → RD X.K H ι x vx → RD X.K H ι y vy → op x y h = some (d, h') → Pst X.K ι H d h' Q → ∃ r, MtR X id r ∧ r vx [vy] H Q
def MtD0 (X : Cx) (id : String) (op : D → M D) : Prop := ∀ (ι : List Addr) (h : Hd) (H : Hp) (x d : D) (h' : Hd) (vx : V) (Q : VK), RelH X.K ι h H → RD X.K H ι x vx → op x h = some (d, h') → Pst X.K ι H d h' Q → ∃ r, MtR X id r ∧ r vx [] H Q
theorem de_lm {name : Str} {id : String} {op : D → D → M D} {fe : Ev → M D} (slot : Slot "list" name id) (hty : typeOf (.builtin id) = pure (.type "method_descriptor")) (hm : MtD X id op) (ho : DE X o g) (he : DE X e fe)
    (hbase : attributeBase o name X.env (eval o X.env) = eval o X.env := by rfl)
    (hfew : ((backTo pos (starEach [e] X.env)).all (fun x => !x.1) && (backToKw pos (keywordEach [] X.env)).all (fun x => x.1.isSome)
      && decide (([e] : List Expr).length + ([] : List Keyword).length + (if ([] : List Keyword).isEmpty then 0 else 1) < 30)) = true := by rfl)
    (hline : (apos.endLine == pos.line) = true := by rfl) (hs : starEach [e] X.env = (false, eval e X.env) :: starEach [] X.env := by rfl) :
    DE X (.Call (.Attribute o name apos) [e] [] pos) (xLM op g fe) := PE.le (pe_bm PySem.F.plainAttrs_list slot hty dynMt_ok ho (pa_cons he pa_nil hs) hbase hfew hline hs rfl) fun τ H Q ⟨ι, σ, h, d, h', S, ev, q⟩ => by
  obtain ⟨x, h1, e1, ev1⟩ := bnd_some ev
  obtain ⟨u, h2, e2, ev2⟩ := bnd_some ev1
  obtain ⟨y, h3, e3, ev3⟩ := bnd_some ev2
  refine ⟨ι, σ, h, x, h1, S, e1, fun ι1 v1 H1 p1 R1 r1 t1 => ?_⟩
  obtain ⟨rfl, a, vs, rfl, s⟩ := isLst_ok R1 r1 e2
  exact ⟨.inl ⟨rfl, _, SqL.of s⟩, ι1, σ, _, y, h3, S.step p1 R1 t1, e3, fun ι2 v2 H2 p2 R2 r2 t2 => hm ι2 h3 H2 x y d h' _ v2 Q R2 (r1.mono p2 t2) r2 ev3 (q.step (p1.trans p2) (t1.trans t2))⟩
theorem de_lm0 {name : Str} {id : String} {op : D → M D} (slot : Slot "list" name id) (hty : typeOf (.builtin id) = pure (.type "method_descriptor")) (hm : MtD0 X id op) (ho : DE X o g)
    (hbase : attributeBase o name X.env (eval o X.env) = eval o X.env := by rfl) (hline : (apos.endLine == pos.line) = true := by rfl) :
    DE X (.Call (.Attribute o name apos) [] [] pos) (xLM0 op g) := PE.le (pe_bm0 PySem.F.plainAttrs_list slot hty dynMt_ok ho hbase hline) fun τ H Q ⟨ι, σ, h, d, h', S, ev, q⟩ => by
  obtain ⟨x, h1, e1, ev1⟩ := bnd_some ev
  obtain ⟨u, h2, e2, ev2⟩ := bnd_some ev1
  refine ⟨ι, σ, h, x, h1, S, e1, fun ι1 v1 H1 p1 R1 r1 t1 => ?_⟩
  obtain ⟨rfl, a, vs, rfl, s⟩ := isLst_ok R1 r1 e2
  exact ⟨.inl ⟨rfl, _, SqL.of s⟩, hm ι1 _ H1 x d h' _ Q R1 r1 ev2 (q.step p1 t1)⟩
theorem m_append : MtD X "list.append" appM := by
  intro ι h H x y d h' vx vy Q R rx ry ev q
  unfold appM at ev
  split at ev
  · rename_i n
    split at ev
    · rename_i xs e
      split at ev
      · rename_i hz
        cases ev
        obtain ⟨a, vs, rfl, i, s, rs⟩ := R.lst e rx
        exact ⟨_, mt_append, a, vs, vy, rfl, rfl, s, by rw [← rs.length]; exact lim_line' (Nat.le_of_lt hz), q.wlst R e i s (rs.append (RDs.cons ry RDs.nil)) RD.non⟩
      · cases ev
    · cases ev
  · cases ev
theorem de_append {fe : Ev → M D} (ho : DE X o g) (he : DE X e fe)
    (hbase : attributeBase o "append" X.env (eval o X.env) = eval o X.env := by rfl)
    (hfew : ((backTo pos (starEach [e] X.env)).all (fun x => !x.1) && (backToKw pos (keywordEach [] X.env)).all (fun x => x.1.isSome)
      && decide (([e] : List Expr).length + ([] : List Keyword).length + (if ([] : List Keyword).isEmpty then 0 else 1) < 30)) = true := by rfl)
    (hline : (apos.endLine == pos.line) = true := by rfl) (hs : starEach [e] X.env = (false, eval e X.env) :: starEach [] X.env := by rfl) :
    DE X (.Call (.Attribute o "append" apos) [e] [] pos) (xLM appM g fe) := de_lm PySem.F.slot_list_append PySem.F.type_list_append m_append ho he hbase hfew hline hs
def popM (x : D) : M D := fun h => match x with
  | .ref n => match h[n]? with
    | some (.lst xs) => match xs[xs.length - 1]? with
      | some d => some (d, h.set n (.lst xs.dropLast))
      | none => none
    | _ => none
  | _ => none
theorem m_pop : MtD0 X "list.pop" popM := by
  intro ι h H x d h' vx Q R rx ev q
  unfold popM at ev
  split at ev
  · rename_i n
    split at ev
    · rename_i xs e
      split at ev
      · rename_i d' e2
        cases ev
        obtain ⟨a, vs, rfl, i, s, rs⟩ := R.lst e rx
        obtain ⟨v, e3, r3⟩ := rs.get e2
        exact ⟨_, mt_pop, a, vs, v, rfl, rfl, s, by rw [← rs.length]; exact e3, q.wlst R e i s rs.dropLast r3⟩
      · cases ev
    · cases ev
  · cases ev
theorem de_pop (ho : DE X o g) (hbase : attributeBase o "pop" X.env (eval o X.env) = eval o X.env := by rfl) (hline : (apos.endLine == pos.line) = true := by rfl) :
    DE X (.Call (.Attribute o "pop" apos) [] [] pos) (xLM0 popM g) := de_lm0 PySem.F.slot_list_pop PySem.F.type_list_pop m_pop ho hbase hline
def revM (x : D) : M D := fun h => match x with
  | .ref n => match h[n]? with
    | some (.lst xs) => some (.non, h.set n (.lst xs.reverse))
    | _ => none
  | _ => none
theorem m_reverse : MtD0 X "list.reverse" revM := by
  intro ι h H x d h' vx Q R rx ev q
  unfold revM at ev
  split at ev
  · split at ev
    · rename_i xs e
      cases ev
      obtain ⟨a, vs, rfl, i, s, rs⟩ := R.lst e rx
      exact ⟨_, mt_reverse, a, vs, rfl, rfl, s, q.wlst R e i s rs.reverse RD.non⟩
    · cases ev
  · cases ev
theorem de_reverse (ho : DE X o g) (hbase : attributeBase o "reverse" X.env (eval o X.env) = eval o X.env := by rfl) (hline : (apos.endLine == pos.line) = true := by rfl) :
    DE X (.Call (.Attribute o "reverse" apos) [] [] pos) (xLM0 revM g) := de_lm0 PySem.F.slot_list_reverse PySem.F.type_list_reverse m_reverse ho hbase hline
/-- xs[::-1] of a list -/
def revSlM (x : D) : M D := fun h => match listOf h x with
  | some xs => some (.ref h.length, h ++ [.lst xs.reverse])
  | none => none
theorem de_revL {k1 : Nat} {q1 q2 q3 : Pos} (ho : DE X o g) : DE X (.Subscript o (.Slice none none (some (.UnaryOp .USub (.Constant (.int 1) k1 q1) q2)) q3) pos) (xUn revSlM g) := PE.le (pe_revL ho) fun τ H Q ⟨ι, σ, h, d, h', S, ev, q⟩ => by
  obtain ⟨x, h1, e1, ev⟩ := bnd_some ev
  refine ⟨ι, σ, h, x, h1, S, e1, fun ι1 v1 H1 p1 R1 r1 t1 => ?_⟩
  unfold revSlM at ev
  split at ev
  · rename_i xs e0
    cases ev
    obtain ⟨a, vs, rfl, s, rs⟩ := listOf_ok R1 e0 r1
    exact ⟨a, vs, rfl, s, (q.step p1 t1).lst R1 rs.reverse⟩
  · cases ev
/-- one of two runs -/
def xAlt (f g : Ev → M D) : Ev → M D := fun σ h => match f σ h with
  | some r => some r
  | none => g σ h
theorem de_alt {g2 : Ev → M D} (h1 : DE X e g) (h2 : DE X e g2) : DE X e (xAlt g g2) := ⟨fun pins s τ H Q I ⟨ι, σ, h, d, h', S, ev, q⟩ => by
  unfold xAlt at ev
  split at ev
  · rename_i r er
    cases ev
    exact h1.run pins s τ H Q I ⟨ι, σ, h, d, h', S, er, q⟩
  · exact h2.run pins s τ H Q I ⟨ι, σ, h, d, h', S, ev, q⟩⟩
/-- two comparisons in a chain -/
def xChain (op op' : D → D → M D) (f g k : Ev → M D) : Ev → M D := fun σ => bnd (f σ) fun x => bnd (g σ) fun y => bnd (op x y) fun z => bnd (isB z) fun b => if b = true then bnd (k σ) fun w => op' y w else ret (.bl false)
theorem chain_le {a b c : Expr} {o1 o2 : CmpOp} {op op' : D → D → M D} {f1 f2 f3 : Ev → M D} (h1 : OpD X (compareOp o1) op) (h2 : OpD X (compareOp o2) op') (τ : L2.St) (H : Hp) (Q : VK) (hw : tD X.K (xChain op op' f1 f2 f3) τ H Q) : tChain (dynR X (compareOp o1)) (dynR X (compareOp o2)) (tD X.K f1) (tD X.K f2) (tD X.K f3) τ H Q := by
  obtain ⟨ι, σ, h, d, h', S, ev, q⟩ := hw
  obtain ⟨x, k1, e1, ev1⟩ := bnd_some ev
  obtain ⟨y, k2, e2, ev2⟩ := bnd_some ev1
  obtain ⟨z, k3, e3, ev3⟩ := bnd_some ev2
  obtain ⟨b, k4, e4, ev4⟩ := bnd_some ev3
  obtain ⟨rfl, rfl⟩ := isB_some e4
  refine ⟨ι, σ, h, x, k1, S, e1, fun ι1 v1 H1 p1 R1 r1 t1 => ⟨ι1, σ, k1, y, k2, S.step p1 R1 t1, e2, fun ι2 v2 H2 p2 R2 r2 t2 => ?_⟩⟩
  refine h1 ι2 k2 H2 x y _ _ v1 v2 _ R2 (r1.mono p2 t2) r2 e3 fun ι3 v3 H3 p3 R3 r3 t3 => ?_
  obtain rfl := r3.bl_inv
  refine ⟨b, rfl, ?_⟩
  have S3 := ((S.step p1 R1 t1).step p2 R2 t2).step p3 R3 t3
  have q3 := q.step (p1.trans (p2.trans p3)) (t1.trans (t2.trans t3))
  cases b with
  | true =>
    obtain ⟨w, k5, e5, ev5⟩ := bnd_some (show bnd (f3 σ) _ _ = _ from ev4)
    refine iteT ⟨ι3, σ, _, w, k5, S3, e5, fun ι4 v4 H4 p4 R4 r4 t4 => ?_⟩
    exact h2 ι4 k5 H4 y w d h' v2 v4 Q R4 ((r2.mono p3 t3).mono p4 t4) r4 ev5 (q3.step p4 t4)
  | false =>
    cases ev4
    exact iteF (q3.now R3 RD.bl)
theorem de_chain {a b c : Expr} {o1 o2 : CmpOp} {op op' : D → D → M D} {f1 f2 f3 : Ev → M D} (h1 : OpD X (compareOp o1) op) (h2 : OpD X (compareOp o2) op') (ha : DE X a f1) (hb : DE X b f2) (hc : DE X c f3)
    (hm : lastMarks [o1, o2] [b, c] = false := by with_unfolding_all rfl) : DE X (.Compare a [o1, o2] [b, c] pos) (xChain op op' f1 f2 f3) := PE.le (pe_chain (dyn_ok (F := compareOp o1)) (dyn_ok (F := compareOp o2)) ha hb hc hm) fun τ H Q hw => chain_le (a := a) (b := b) (c := c) h1 h2 τ H Q hw
def xChainT (op op' : D → D → M D) (f g k : Ev → M D) : Ev → M Bool := fun σ => bnd (xChain op op' f g k σ) isB
theorem dt_chain {a b c : Expr} {o1 o2 : CmpOp} {op op' : D → D → M D} {f1 f2 f3 : Ev → M D} (h1 : OpD X (compareOp o1) op) (h2 : OpD X (compareOp o2) op') (ha : DE X a f1) (hb : DE X b f2) (hc : DE X c f3)
    (hm : lastMarks [o1, o2] [b, c] = false := by with_unfolding_all rfl) : DT X (.Compare a [o1, o2] [b, c] pos) (xChainT op op' f1 f2 f3) := PT.le (pt_chain (dyn_ok (F := compareOp o1)) (dyn_ok (F := compareOp o2)) ha hb hc hm) fun τ H Q ⟨ι, σ, h, d, h', S, ev, q⟩ => by
  obtain ⟨x, k1, e1, ev1⟩ := bnd_some ev
  obtain ⟨rfl, rfl⟩ := isB_some ev1
  exact chain_le (a := a) (b := b) (c := c) h1 h2 τ H _ ⟨ι, σ, h, _, _, S, e1, fun ι' v H' p R r t => ⟨d, r.bl_inv, q ι' H' p R t⟩⟩
end
end Dt

set_option Elab.async false
set_option linter.all false
set_option autoImplicit false
set_option maxRecDepth 100000
/-! DtG: what the head tells, defs by name, the law's end. -/
namespace Dt
open PySem PySem.Spec PyProof.Rows L2

structure Tx (fa : List He.Fa) (fn : List He.DefD) (K : PySem.W.Frag) (mg : Str → Option Value) : Prop where
  h : ∃ h : Heap, K.In h ∧ h.Ns mainGlobals mg
  s : He.SaysD fa fn K
section
variable {fa : List He.Fa} {fn : List He.DefD} {K : PySem.W.Frag} {mg : Str → Option Value}
theorem Tx.glo (T : Tx fa fn K mg) (i : Nat) {x : Str} (e : fa[i]? = some (.glo x) := by rfl) : mg x = some (.ref (He.ga K x)) := let ⟨_, X, G⟩ := T.h; He.glo_ok X G (T.s.fact i e)
theorem Tx.free (T : Tx fa fn K mg) (i : Nat) {x : Str} (e : fa[i]? = some (.free x) := by rfl) : mg x = none := let ⟨_, X, G⟩ := T.h; He.free_ok X G (T.s.fact i e)
theorem Tx.int (T : Tx fa fn K mg) (i : Nat) {x : Str} {n : Int} (e : fa[i]? = some (.int x n) := by rfl) : ∃ t, mg x = some (.int n t) := let ⟨_, X, G⟩ := T.h; He.int_ok X G (T.s.fact i e)
theorem Tx.cls (T : Tx fa fn K mg) (i : Nat) {x : Str} (e : fa[i]? = some (.cls x) := by rfl) : Cls K (He.ga K x) := He.cls_ok (T.s.fact i e)
theorem Tx.noat (T : Tx fa fn K mg) (i : Nat) {x f : Str} (e : fa[i]? = some (.noat x f) := by rfl) : NoAttr K (He.ga K x) f := He.noat_ok (T.s.fact i e)
theorem Tx.meth (T : Tx fa fn K mg) (i : Nat) {x m : Str} (e : fa[i]? = some (.meth x m) := by rfl) : Meth K (He.ga K x) m (He.ma K (He.ga K x) m) := He.meth_ok (T.s.fact i e)
theorem Tx.mkr (T : Tx fa fn K mg) (i : Nat) {x : Str} (e : fa[i]? = some (.mkr x) := by rfl) : Mk K (He.ga K x) (He.ma K (He.ga K x) "__init__") := He.mkr_ok (T.s.fact i e)
theorem Tx.def_ (T : Tx fa fn K mg) (i : Nat) {d : He.DefD} (e : fn[i]? = some d := by rfl) : ∃ fd, FunD K d.name d.qual d.params d.body d.scope (d.dvs K) (d.kws K) (He.fAd K d.at_) fd := T.s.def_ i e
end
/-- a global def: at level k, of n parameters, it runs as F; dds: the defaults that a call leaves out -/
structure FnG (P : Program) (w : World) (K : PySem.W.Frag) (mg : Str → Option Value) (base : Heap) (x : Str) (k n : Nat) (F : List D → M D) (dds : List D) : Prop where
  ex : ∃ (f : Addr) (fd : FuncData) (ps : List Str) (ds : List Value) (dvs : List V), FnOk P w K mg base CX0 k f fd ps (spD K n F) ∧ mg x = some (.ref f) ∧ PySem.W.keepIn K (.ref f) = true ∧ Binds K fd ps ds ∧ Vals dvs ds ∧ ∀ H ι, RDs K H ι dds dvs
  len : LenOk n F
/-- a method of the class c -/
structure FnM (P : Program) (w : World) (K : PySem.W.Frag) (mg : Str → Option Value) (base : Heap) (c m : String) (k n : Nat) (F : List D → M D) (dds : List D) : Prop where
  ex : ∃ (f : Addr) (fd : FuncData) (ps : List Str) (ds : List Value) (dvs : List V), FnOk P w K mg base CX0 k f fd ps (spD K n F) ∧ Meth K (He.ga K (Str.ofString c)) (Str.ofString m) f ∧ Binds K fd ps ds ∧ Vals dvs ds ∧ ∀ H ι, RDs K H ι dds dvs
  cl : Cls K (He.ga K (Str.ofString c))
  len : LenOk n F
/-- a class, made -/
structure FnI (P : Program) (w : World) (K : PySem.W.Frag) (mg : Str → Option Value) (base : Heap) (c : String) (k n : Nat) (F : List D → M D) (dds : List D) : Prop where
  ex : ∃ (f : Addr) (fd : FuncData) (ps : List Str) (ds : List Value) (dvs : List V), FnOk P w K mg base CX0 k f fd ps (spD K n F) ∧ Mk K (He.ga K (Str.ofString c)) f ∧ mg (Str.ofString c) = some (.ref (He.ga K (Str.ofString c))) ∧ Binds K fd ps ds ∧ Vals dvs ds ∧ ∀ H ι, RDs K H ι dds dvs
  len : LenOk n F
section
variable {X : Cx} {k k2 n : Nat} {Fm : List D → M D} {dds : List D} {x : Str} {c m : String} {p pos apos : Pos} {e o : Expr} {es : List Expr} {g : Ev → M D} {fs : Ev → M (List D)}
theorem cg (G : FnG X.prog X.w X.K X.mg X.base x k n Fm dds) (hr : Room k2 X.A) (ha : DA X (e :: es) fs) (hk : k ≤ k2 := by decide) (hg : Gl X x := by rfl) (hdb : (x == ("__debug__" : Str)) = false := by decide) (he : starEach (e :: es) X.env = (false, eval e X.env) :: starEach es X.env := by rfl) (hpl : (backTo pos (starEach es X.env)).any (·.1) = false := by rfl) :
    DE X (.Call (.Name x p) (e :: es) [] pos) (xCall Fm dds fs) := by
  obtain ⟨⟨f, fd, ps, ds, dvs, F, hm, kp, hb, hd, hdd⟩, hl⟩ := G
  exact de_call F (hr.mono hk) hg hm kp hb hd hdd hl ha hdb he hpl
theorem cg0 (G : FnG X.prog X.w X.K X.mg X.base x k n Fm dds) (hr : Room k2 X.A) (hk : k ≤ k2 := by decide) (hg : Gl X x := by rfl) (hdb : (x == ("__debug__" : Str)) = false := by decide) : DE X (.Call (.Name x p) [] [] pos) (xCall Fm dds xNil) := by
  obtain ⟨⟨f, fd, ps, ds, dvs, F, hm, kp, hb, hd, hdd⟩, hl⟩ := G
  exact de_call0 F (hr.mono hk) hg hm kp hb hd hdd hl hdb
theorem cm {pl : Sem Bool} (G : FnM X.prog X.w X.K X.mg X.base c m k n Fm dds) (hr : Room k2 X.A) (ho : DE X o g) (ha : DA X (e :: es) fs) (hk : k ≤ k2 := by decide) (hst : starEach (e :: es) X.env = (false, eval e X.env) :: starEach es X.env := by rfl) (hpl : (backTo pos (starEach es X.env)).any (·.1) = false := by rfl)
    (ht : eval (.Call (.Attribute o (Str.ofString m) apos) (e :: es) [] pos) X.env = (do
      let ov ← eval o X.env
      standAt apos.atName
      let (f, first) ← holding [ov] (getMethod ov (Str.ofString m) pl)
      callWith pos f first (backTo pos (starEach (e :: es) X.env)) (backToKw pos (keywordEach [] X.env))) := by rfl) :
    DE X (.Call (.Attribute o (Str.ofString m) apos) (e :: es) [] pos) (xMeth c m Fm dds g fs) := by
  obtain ⟨⟨f, fd, ps, ds, dvs, F, hm, hb, hd, hdd⟩, cl, hl⟩ := G
  exact de_meth (pl := pl) F (hr.mono hk) cl hm hb hd hdd hl ho ha hst hpl ht
theorem cm0 {pl : Sem Bool} (G : FnM X.prog X.w X.K X.mg X.base c m k n Fm dds) (hr : Room k2 X.A) (ho : DE X o g) (hk : k ≤ k2 := by decide)
    (ht : eval (.Call (.Attribute o (Str.ofString m) apos) [] [] pos) X.env = (do
      let ov ← eval o X.env
      standAt apos.atName
      let (f, first) ← holding [ov] (getMethod ov (Str.ofString m) pl)
      callWith pos f first (backTo pos (starEach [] X.env)) (backToKw pos (keywordEach [] X.env))) := by rfl) :
    DE X (.Call (.Attribute o (Str.ofString m) apos) [] [] pos) (xMeth c m Fm dds g xNil) := by
  obtain ⟨⟨f, fd, ps, ds, dvs, F, hm, hb, hd, hdd⟩, cl, hl⟩ := G
  exact de_meth0 (pl := pl) F (hr.mono hk) cl hm hb hd hdd hl ho ht
theorem ci (G : FnI X.prog X.w X.K X.mg X.base c k n Fm dds) (hr : Room k2 X.A) (ha : DA X (e :: es) fs) (hk : k + 1 ≤ k2 := by decide) (hg : Gl X (Str.ofString c) := by rfl) (hdb : (Str.ofString c == ("__debug__" : Str)) = false := by decide) (he : starEach (e :: es) X.env = (false, eval e X.env) :: starEach es X.env := by rfl) (hpl : (backTo pos (starEach es X.env)).any (·.1) = false := by rfl) :
    DE X (.Call (.Name (Str.ofString c) p) (e :: es) [] pos) (xMake c Fm dds fs) := by
  obtain ⟨⟨f, fd, ps, ds, dvs, F, hM, hm, hb, hd, hdd⟩, hl⟩ := G
  exact de_make hM F (hr.mono hk) hg hm hb hd hdd hl ha hdb he hpl
theorem ci0 (G : FnI X.prog X.w X.K X.mg X.base c k n Fm dds) (hr : Room k2 X.A) (hk : k + 1 ≤ k2 := by decide) (hg : Gl X (Str.ofString c) := by rfl) (hdb : (Str.ofString c == ("__debug__" : Str)) = false := by decide) :
    DE X (.Call (.Name (Str.ofString c) p) [] [] pos) (xMake c Fm dds xNil) := by
  obtain ⟨⟨f, fd, ps, ds, dvs, F, hM, hm, hb, hd, hdd⟩, hl⟩ := G
  exact de_make0 hM F (hr.mono hk) hg hm hb hd hdd hl hdb
end
/-- the law's promise from its run -/
theorem law_end {K : PySem.W.Frag} {F : List D → M D} {n : Nat} (hF : ∀ ns : List Int, ns.length ≤ n → ∃ h', F [.ref 0] [.ro (ns.map D.int)] = some (.bl true, h')) (H : Hp) (a : Addr) (ns : List Int) (hl : ns.length ≤ n) (hO : Only H) (hS : SqL K H a (ns.map V.int)) :
    spD K 1 F [.ref a] H (fun v _ => v = .bl true) fun _ _ _ => False := by
  obtain ⟨h', e⟩ := hF ns hl
  have sr : SqR K H a (ns.map V.int) := by
    rcases hS with (h | h) | h
    · rcases hO a with z | ⟨o, xs, z⟩
      · rw [h] at z; cases z
      · rw [h] at z; cases z
    · exact .inl h
    · exact .inr h
  have R : RelH K [a] [.ro (ns.map D.int)] H := by
    refine ⟨rfl, fun i c b e1 e2 => ?_, fun i j b c d e1 e2 e3 e4 m1 m2 => ?_⟩
    · cases i with
      | zero => cases e1; cases e2; exact ⟨_, sr, RDs.of_ints ns⟩
      | succ i => simp at e1
    · cases i with
      | zero => cases e3; cases m1
      | succ i => simp at e3
  exact ⟨[a], _, [.ref 0], .bl true, h', R, RDs.cons (RD.ref rfl) RDs.nil, rfl, e, fun ι' v H' p R' r t => r.bl_inv⟩
end Dt

set_option Elab.async false
set_option linter.all false
set_option autoImplicit false
set_option maxRecDepth 100000
/-! DtX: stores by index, del, dict.get, calls by keywords. -/
namespace Dt
open PySem PySem.Spec PyProof.Rows L2

/-! ### o[i] = v -/
def putD {κ : Type} [DecidableEq κ] (kvs : List (κ × D)) (k : κ) (v : D) : List (κ × D) :=
  if (kvs.any fun kv => decide (kv.1 = k)) = true then kvs.map (fun kv => if kv.1 = k then (kv.1, v) else kv) else kvs ++ [(k, v)]
section
variable {K : PySem.W.Frag} {H : Hp} {ι : List Addr}
theorem RKs.any {κ : Type} [DecidableEq κ] {k : κ} : ∀ {kvs : List (κ × D)} {vs : List (κ × V)}, RKs K H ι kvs vs → (vs.any fun kv => decide (kv.1 = k)) = kvs.any fun kv => decide (kv.1 = k)
  | [], vs, r => by
    have : vs = [] := r
    subst this; rfl
  | p :: kvs, vs, r => by
    obtain ⟨v, w, rfl, r1, r2⟩ := r
    rw [List.any_cons, List.any_cons, RKs.any r2]
theorem RKs.mapp {κ : Type} [DecidableEq κ] {k : κ} {d : D} {u : V} (rd : RD K H ι d u) : ∀ {kvs : List (κ × D)} {vs : List (κ × V)}, RKs K H ι kvs vs → RKs K H ι (kvs.map fun kv => if kv.1 = k then (kv.1, d) else kv) (vs.map fun kv => if kv.1 = k then (kv.1, u) else kv)
  | [], vs, r => by
    have : vs = [] := r
    subst this; rfl
  | p :: kvs, vs, r => by
    obtain ⟨v, w, rfl, r1, r2⟩ := r
    by_cases c : p.1 = k
    · exact ⟨u, _, by simp [c], by simpa [c] using rd, RKs.mapp rd r2⟩
    · exact ⟨v, _, by simp [c], by simpa [c] using r1, RKs.mapp rd r2⟩
theorem RKs.snoc {κ : Type} {k : κ} {d : D} {u : V} (rd : RD K H ι d u) : ∀ {kvs : List (κ × D)} {vs : List (κ × V)}, RKs K H ι kvs vs → RKs K H ι (kvs ++ [(k, d)]) (vs ++ [(k, u)])
  | [], vs, r => by
    have : vs = [] := r
    subst this; exact ⟨u, [], rfl, rd, rfl⟩
  | p :: kvs, vs, r => by
    obtain ⟨v, w, rfl, r1, r2⟩ := r
    exact ⟨v, _, rfl, r1, RKs.snoc rd r2⟩
theorem RKs.put {κ : Type} [DecidableEq κ] {k : κ} {d : D} {u : V} {kvs : List (κ × D)} {vs : List (κ × V)} (r : RKs K H ι kvs vs) (rd : RD K H ι d u) : RKs K H ι (putD kvs k d) (putK vs k u) := by
  unfold putD putK
  rw [RKs.any r]
  split
  · exact RKs.mapp rd r
  · exact RKs.snoc rd r
theorem RKs.len {κ : Type} : ∀ {kvs : List (κ × D)} {vs : List (κ × V)}, RKs K H ι kvs vs → kvs.length = vs.length
  | [], vs, r => by
    have : vs = [] := r
    subst this; rfl
  | p :: kvs, vs, r => by
    obtain ⟨v, w, rfl, r1, r2⟩ := r
    rw [List.length_cons, List.length_cons, RKs.len r2]
end
def setI (x i d : D) : M Unit := fun h => match x with
  | .ref n => match h[n]? with
    | some (.lst xs) => match i with
      | .int k => match ixN xs.length k with
        | some j => some ((), h.set n (.lst (xs.set j d)))
        | none => none
      | _ => none
    | some (.dct kvs) => match keyOf i with
      | some k => if kvs.length < LIM then some ((), h.set n (.dct (putD kvs k d))) else none
      | none => none
    | _ => none
  | _ => none
def dynSet (X : Cx) : TSet := fun o i v H Q => ∃ t, PSet X t ∧ t o i v H Q
theorem dynSet_ok {X : Cx} : PSet X (dynSet X) := fun pins s σ H o i v ov iv u Q I ro ri rv ⟨_, ht, q⟩ => ht pins s σ H o i v ov iv u Q I ro ri rv q
theorem setI_ok {X : Cx} (hu : Roomy X) {ι : List Addr} {h h' : Hd} {H : Hp} {x i d : D} {vx vi v : V} {u : Unit} (R : RelH X.K ι h H) (rx : RD X.K H ι x vx) (ri : RD X.K H ι i vi) (rd : RD X.K H ι d v) (ev : setI x i d h = some (u, h'))
    (Q : Hp → Prop) (q : ∀ H', RelH X.K ι h' H' → TExt X.K H H' → Q H') : dynSet X vx vi v H Q := by
  unfold setI at ev
  split at ev
  · rename_i n
    split at ev
    · rename_i xs e
      split at ev
      · rename_i k
        split at ev
        · rename_i j ej
          cases ev
          obtain ⟨a, vs, rfl, ia, s, rs⟩ := R.lst e rx
          obtain rfl := ri.int_inv
          refine ⟨_, set_list, a, vs, k, j, rfl, rfl, s, by rw [← rs.length]; exact ej, ?_⟩
          have tw : TExt X.K H (upd H a (.lst (vs.set j v))) := TExt.write s rfl
          exact q _ (R.write (c := .lst (xs.set j d)) e rfl ia ⟨_, upd_same, (rs.set rd j).mono (List.prefix_refl _) tw⟩ rfl) tw
        · cases ev
      · cases ev
    · rename_i kvs e
      split at ev
      · rename_i k ek
        split at ev
        · rename_i hl
          cases ev
          obtain ⟨a, vs, rfl, ia, s, rs⟩ := R.dct e rx
          obtain rfl := keyOf_ok ek ri
          refine ⟨_, set_dict hu.u1, a, _, rfl, .inl ⟨vs, k, s, rfl, by rw [← RKs.len rs]; exact lim_line' (Nat.le_of_lt hl), rfl⟩, ?_⟩
          have tw : TExt X.K H (upd H a (.dK (putK vs k v))) := TExt.write s rfl
          exact q _ (R.write (c := .dct (putD kvs k d)) e rfl ia ⟨_, upd_same, (rs.put rd).mono (List.prefix_refl _) tw⟩ rfl) tw
        · cases ev
      · cases ev
    · cases ev
  · cases ev
section
variable {X : Cx} {o i e : Expr} {fo fi fe : Ev → M D} {pos tpos apos : Pos}
def gSubD (fo fi : Ev → M D) : D → Ev → M Ev := fun d σ => bnd (fo σ) fun x => bnd (fi σ) fun i => bnd (setI x i d) fun _ => ret σ
theorem dg_sub (hu : Roomy X) (ho : DE X o fo) (hi : DE X i fi)
    (ha : ∀ v, assign (.Subscript o i pos) X.env v = (do
      let ov ← holding [v] (eval o X.env)
      let iv ← holding [v, ov] (eval i X.env)
      standAt pos
      holding [v, ov, iv] (setItem ov iv v)
      release [v, ov, iv] []) := by intro _; rfl) : DG X (.Subscript o i pos) [] (gSubD fo fi) :=
  PG.le (pg_sub ho hi dynSet_ok ha) fun v τ H Q ⟨ι, σ, h, d, σ', h', S, rd, ev, q⟩ => by
    obtain ⟨x, h1, e1, ev⟩ := bnd_some ev
    obtain ⟨y, h2, e2, ev⟩ := bnd_some ev
    obtain ⟨u, h3, e3, ev⟩ := bnd_some ev
    cases ev
    refine ⟨ι, σ, h, x, h1, S, e1, fun ι1 vx H1 p1 R1 r1 t1 => ⟨ι1, σ, h1, y, h2, S.step p1 R1 t1, e2, fun ι2 vy H2 p2 R2 r2 t2 => ?_⟩⟩
    refine setI_ok hu R2 (r1.mono p2 t2) r2 ((rd.mono p1 t1).mono p2 t2) e3 _ fun H3 R3 t3 => ?_
    exact q ι2 τ H3 (p1.trans p2) ⟨R3, ((S.env.mono p1 t1).mono p2 t2).mono (List.prefix_refl _) t3⟩ ((t1.trans t2).trans t3) OutS.refl
/-! ### o[i] op= e -/
def getI (x i : D) : M D := fun h => match x with
  | .ref n => match h[n]? with
    | some (.lst xs) => match i with
      | .int k => if 0 ≤ k then match xs[k.toNat]? with
        | some d => some (d, h)
        | none => none else none
      | _ => none
    | some (.dct kvs) => match keyOf i with
      | some k => match look k kvs with
        | some d => some (d, h)
        | none => none
      | none => none
    | _ => none
  | _ => none
def dynGet (X : Cx) : V → V → Hp → VK → Prop := fun o i H Q => ∃ t, PGet X t ∧ t o i H Q
theorem dynGet_ok {X : Cx} : PGet X (dynGet X) := fun pins s σ H o i ov iv Q I ro ri ⟨_, ht, q⟩ => ht pins s σ H o i ov iv Q I ro ri q
theorem get_lst {X : Cx} : PGet X (fun x i H Q => ∃ p vs k v, x = .ref p ∧ i = .int k ∧ H p = some (.lst vs) ∧ 0 ≤ k ∧ vs[k.toNat]? = some v ∧ Q v H) := by
  intro pins s σ H o i ov iv Q I ro ri h
  obtain ⟨p, vs, k, v, rfl, rfl, hp, h0, he, q⟩ := h
  cases ro
  obtain ⟨t, rfl⟩ := ri
  obtain ⟨its, r, pl, hz⟩ := I.list (.inl (.inl hp))
  obtain ⟨w, ew, rw'⟩ := r.get he
  have hl := r.length
  have hn := line63
  have hj : k.toNat < vs.length := (List.getElem?_eq_some_iff.mp he).1
  exact wpAny_getItem_list pl.isList h0 (by omega) (by simpa using ew) ⟨v, H, I, rw', q⟩
theorem get_dct {X : Cx} (hu : Roomy X) : PGet X (fun x i H Q => ∃ p v, x = .ref p ∧ DGet H p i (some v) ∧ Q v H) := by
  intro pins s σ H o i ov iv Q I ro ri h
  obtain ⟨p, v, rfl, g, q⟩ := h
  cases ro
  exact d_getItem hu.u1 I g ri fun w2 s3 I3 rw2 => ⟨v, H, I3, rw2, q⟩
theorem getI_ok (hu : Roomy X) {ι : List Addr} {h h' : Hd} {H : Hp} {x i d : D} {vx vi : V} {Q : VK} (R : RelH X.K ι h H) (rx : RD X.K H ι x vx) (ri : RD X.K H ι i vi) (ev : getI x i h = some (d, h')) (q : Pst X.K ι H d h' Q) : dynGet X vx vi H Q := by
  unfold getI at ev
  split at ev
  · rename_i n
    split at ev
    · rename_i xs e
      split at ev
      · rename_i k
        split at ev
        · rename_i h0
          split at ev
          · rename_i d' e2
            cases ev
            obtain ⟨a, vs, rfl, ia, s, rs⟩ := R.lst e rx
            obtain rfl := ri.int_inv
            obtain ⟨v, e3, r3⟩ := rs.get e2
            exact ⟨_, get_lst, a, vs, k, v, rfl, rfl, s, h0, e3, q.now R r3⟩
          · cases ev
        · cases ev
      · cases ev
    · rename_i kvs e
      split at ev
      · rename_i k ek
        split at ev
        · rename_i d' e2
          cases ev
          obtain ⟨a, vs, rfl, ia, s, rs⟩ := R.dct e rx
          obtain rfl := keyOf_ok ek ri
          obtain ⟨v, e4, r4⟩ := (look_ok (k := k) rs).1 _ e2
          exact ⟨_, get_dct hu, a, v, rfl, by rw [← e4]; exact DGet.k s, q.now R r4⟩
        · cases ev
      · cases ev
    · cases ev
  · cases ev
def xAugI (op : D → D → M D) (fo fi fe : Ev → M D) : Ev → M Fl := fun σ => bnd (fo σ) fun x => bnd (fi σ) fun i => bnd (getI x i) fun v => bnd (fe σ) fun y => bnd (op v y) fun z => bnd (setI x i z) fun _ => ret (.nx σ)
theorem ds_augi {op : Operator} {opM : D → D → M D} (hu : Roomy X) (ho : DE X o fo) (hi : DE X i fi) (he : DE X e fe) (hop : OpD X (inplaceOp op) opM)
    (ha : ∀ ov iv new, augStore i ov iv new = (do holding [new, ov, iv] (setItem ov iv new); release [new, ov, iv] []; pure .next) := by intros; rfl) : DS X (.AugAssign (.Subscript o i tpos) op e pos) (xAugI opM fo fi fe) :=
  PS.le (ps_augS (tip := dynR X (inplaceOp op)) ho hi dynGet_ok he dyn_ok dynSet_ok ha) fun D τ H ⟨ι, σ, h, r, h', S, ev, q⟩ => by
    obtain ⟨x, h1, e1, ev⟩ := bnd_some ev
    obtain ⟨y, h2, e2, ev⟩ := bnd_some ev
    obtain ⟨g, h3, e3, ev⟩ := bnd_some ev
    obtain ⟨w, h4, e4, ev⟩ := bnd_some ev
    obtain ⟨z, h5, e5, ev⟩ := bnd_some ev
    obtain ⟨u, h6, e6, ev⟩ := bnd_some ev
    cases ev
    refine ⟨ι, σ, h, x, h1, S, e1, fun ι1 vx H1 p1 R1 r1 t1 => ⟨ι1, σ, h1, y, h2, S.step p1 R1 t1, e2, fun ι2 vy H2 p2 R2 r2 t2 => ?_⟩⟩
    refine getI_ok hu R2 (r1.mono p2 t2) r2 e3 fun ι3 vg H3 p3 R3 r3 t3 => ?_
    refine ⟨ι3, σ, h3, w, h4, ((S.step p1 R1 t1).step p2 R2 t2).step p3 R3 t3, e4, fun ι4 vw H4 p4 R4 r4 t4 => ?_⟩
    refine hop ι4 h4 H4 g w z h5 vg vw _ R4 (r3.mono p4 t4) r4 e5 fun ι5 vz H5 p5 R5 r5 t5 => ?_
    refine setI_ok hu R5 ((((r1.mono p2 t2).mono p3 t3).mono p4 t4).mono p5 t5) (((r2.mono p3 t3).mono p4 t4).mono p5 t5) r5 e6 _ fun H6 R6 t6 => ?_
    exact q ι5 τ H6 ((((p1.trans p2).trans p3).trans p4).trans p5) ⟨R6, (((((S.env.mono p1 t1).mono p2 t2).mono p3 t3).mono p4 t4).mono p5 t5).mono (List.prefix_refl _) t6⟩ (((((t1.trans t2).trans t3).trans t4).trans t5).trans t6)
/-! ### del xs[i] -/
def delM (x i : D) : M Unit := fun h => match x with
  | .ref n => match h[n]? with
    | some (.lst xs) => match i with
      | .int k => if 0 ≤ k ∧ k < xs.length ∧ k < 1000000000 then some ((), h.set n (.lst (xs.eraseIdx k.toNat))) else none
      | _ => none
    | _ => none
  | _ => none
def xDel (fo fi : Ev → M D) : Ev → M Fl := fun σ => bnd (fo σ) fun x => bnd (fi σ) fun i => bnd (delM x i) fun _ => ret (.nx σ)
theorem ds_del (ho : DE X o fo) (hi : DE X i fi) : DS X (.Delete [.Subscript o i tpos] pos) (xDel fo fi) := PS.le (ps_delL ho hi) fun D τ H ⟨ι, σ, h, r, h', S, ev, q⟩ => by
  obtain ⟨x, h1, e1, ev⟩ := bnd_some ev
  obtain ⟨y, h2, e2, ev⟩ := bnd_some ev
  obtain ⟨u, h3, e3, ev⟩ := bnd_some ev
  cases ev
  refine ⟨ι, σ, h, x, h1, S, e1, fun ι1 vx H1 p1 R1 r1 t1 => ⟨ι1, σ, h1, y, h2, S.step p1 R1 t1, e2, fun ι2 vy H2 p2 R2 r2 t2 => ?_⟩⟩
  unfold delM at e3
  split at e3
  · rename_i n
    split at e3
    · rename_i xs e
      split at e3
      · rename_i k
        split at e3
        · rename_i hk
          cases e3
          obtain ⟨a, vs, rfl, ia, s, rs⟩ := R2.lst e (r1.mono p2 t2)
          obtain rfl := r2.int_inv
          have tw : TExt X.K H2 (upd H2 a (.lst (vs.eraseIdx k.toNat))) := TExt.write s rfl
          refine ⟨a, vs, k, k.toNat, rfl, rfl, s, by omega, by omega, seqIndex_of hk.1 (by rw [← rs.length]; exact hk.2.1), ?_⟩
          exact q ι2 τ _ (p1.trans p2) ⟨R2.write (c := .lst (xs.eraseIdx k.toNat)) e rfl ia ⟨_, upd_same, (rs.eraseIdx _).mono (List.prefix_refl _) tw⟩ rfl, ((S.env.mono p1 t1).mono p2 t2).mono (List.prefix_refl _) tw⟩ ((t1.trans t2).trans tw)
        · cases e3
      · cases e3
    · cases e3
  · cases e3
/-! ### d.get(k) -/
def isDct (x : D) : M Unit := fun h => match x with
  | .ref n => match h[n]? with
    | some (.dct _) => some ((), h)
    | _ => none
  | _ => none
def dgetM (x i : D) : M D := fun h => match x with
  | .ref n => match h[n]? with
    | some (.dct kvs) => match keyOf i with
      | some k => some ((look k kvs).getD .non, h)
      | none => none
    | _ => none
  | _ => none
def xGet1 (fo fi : Ev → M D) : Ev → M D := fun σ => bnd (fo σ) fun x => bnd (isDct x) fun _ => bnd (fi σ) fun i => dgetM x i
theorem de_get1 (hu : Roomy X) (ho : DE X o fo) (hi : DE X i fi) (hbase : attributeBase o "get" X.env (eval o X.env) = eval o X.env := by rfl)
    (hfew : ((backTo pos (starEach [i] X.env)).all (fun x => !x.1) && (backToKw pos (keywordEach [] X.env)).all (fun x => x.1.isSome)
    && decide (([i] : List Expr).length + ([] : List Keyword).length + (if ([] : List Keyword).isEmpty then 0 else 1) < 30)) = true := by rfl) (hline : (apos.endLine == pos.line) = true := by rfl) (htrees : backTo pos (starEach [i] X.env) = [(false, eval i X.env)] := by rfl) :
    DE X (.Call (.Attribute o "get" apos) [i] [] pos) (xGet1 fo fi) := PE.le (pe_dget1 hu.u1 ho hi ⟨hbase, hfew, hline, htrees⟩) fun τ H Q ⟨ι, σ, h, d, h', S, ev0, q⟩ => by
  obtain ⟨x, h1, e1, ev1⟩ := bnd_some ev0
  obtain ⟨u, h2, e2, ev2⟩ := bnd_some ev1
  obtain ⟨y, h3, e3, ev⟩ := bnd_some ev2
  clear ev0 ev1 ev2
  refine ⟨ι, σ, h, x, h1, S, e1, fun ι1 vx H1 p1 R1 r1 t1 => ?_⟩
  have hd : h2 = h1 ∧ ∃ a vs, vx = .ref a ∧ H1 a = some (.dK vs) := by
    unfold isDct at e2
    split at e2
    · split at e2
      · rename_i kvs e
        cases e2
        obtain ⟨a, vs, rfl, _, s, _⟩ := R1.dct e r1
        exact ⟨rfl, a, vs, rfl, s⟩
      · cases e2
    · cases e2
  obtain ⟨rfl, a, vs, rfl, s⟩ := hd
  refine ⟨a, rfl, .inl ⟨vs, .inl s⟩, ι1, σ, h2, y, h3, S.step p1 R1 t1, e3, fun ι2 vy H2 p2 R2 r2 t2 => ?_⟩
  unfold dgetM at ev
  split at ev
  · rename_i n
    split at ev
    · rename_i kvs e
      split at ev
      · rename_i k ek
        cases ev
        obtain ⟨b, ws, eb, _, s2, rs⟩ := R2.dct e (r1.mono p2 t2)
        cases eb
        obtain rfl := keyOf_ok ek r2
        refine ⟨valV ws k, DGet.k s2, ?_⟩
        cases el : look k kvs with
        | none =>
          rw [(look_ok (k := k) rs).2 el]
          rw [el] at q
          exact (q.step p1 t1).step p2 t2 |>.now R2 RD.non
        | some d =>
          obtain ⟨v, e4, r4⟩ := (look_ok (k := k) rs).1 _ el
          rw [e4]
          rw [el] at q
          exact (q.step p1 t1).step p2 t2 |>.now R2 r4
      · cases ev
    · cases ev
  · cases ev
end
/-! ### f(e, .., k = e) -/
def DKw (X : Cx) (kws : List Keyword) (f : Ev → M (List D)) : Prop := PK X kws (tDA X.K f)
section
variable {X : Cx} {kws : List Keyword} {e : Expr} {f : Ev → M D} {fs fk : Ev → M (List D)} {nm : Option Str} {kpos p pos : Pos} {es : List Expr}
theorem PK.le {t t' : TA} (h : PK X kws t) (w : ∀ τ H Q, t' τ H Q → t τ H Q) : PK X kws t' := ⟨fun pos pins s σ H Q I q => h.run pos pins s σ H Q I (w _ _ _ q)⟩
theorem dk_nil : DKw X [] xNil := PK.le pk_nil fun τ H Q ⟨ι, σ, h, d, h', S, ev, q⟩ => by
  cases ev
  exact q ι [] H (List.prefix_refl _) S.hp RDs.nil TExt.rfl'
theorem dk_cons (ha : DE X e f) (hr : DKw X kws fs) : DKw X (⟨nm, e, kpos⟩ :: kws) (xCons f fs) := PK.le (pk_cons ha hr) fun τ H Q ⟨ι, σ, h, d, h', S, ev, q⟩ => by
  obtain ⟨x, h1, e1, ev⟩ := bnd_some ev
  obtain ⟨xs, h2, e2, ev⟩ := bnd_some ev
  cases ev
  exact ⟨ι, σ, h, x, h1, S, e1, fun ι1 v1 H1 p R r t => ⟨ι1, σ, h1, xs, _, S.step p R t, e2, fun ι2 vs H2 p2 R2 rs t2 => q ι2 (v1 :: vs) H2 (p.trans p2) R2 (RDs.cons (r.mono p2 t2) rs) (t.trans t2)⟩⟩
def xCallK (n m : Nat) (F : List D → M D) (fs fk : Ev → M (List D)) : Ev → M D := fun σ => bnd (fs σ) fun xs => bnd (fk σ) fun ys h => if xs.length = n ∧ ys.length = m then F (xs ++ ys) h else none
theorem RDs.app {K : PySem.W.Frag} {H : Hp} {ι : List Addr} {xs ys : List D} {vs ws : List V} (r : RDs K H ι xs vs) (s : RDs K H ι ys ws) : RDs K H ι (xs ++ ys) (vs ++ ws) := r.append s
/-- a def that is called with n values and the keywords ks, which are all the others -/
structure FnK (P : Program) (w : World) (K : PySem.W.Frag) (mg : Str → Option Value) (base : Heap) (x : Str) (k n : Nat) (ks : List Str) (F : List D → M D) : Prop where
  ex : ∃ (f : Addr) (fd : FuncData) (ps : List Str), FnOk P w K mg base CX0 k f fd ps (spD K (n + ks.length) F) ∧ mg x = some (.ref f) ∧ PySem.W.keepIn K (.ref f) = true ∧ KBn K fd ps n ks (fun us ws => us ++ ws) (fun vs zs => vs ++ zs)
theorem FunD_bindsK {K : PySem.W.Frag} {x qual : Str} {params : Arguments} {body : List Stmt} {scope : Scope} {kwv : List (Str × V)} {f : Addr} {fd : FuncData} {ps : List Str} (F : FunD K x qual params body scope [] kwv f fd) (n : Nat) (ks : List Str)
    (h : ∀ (kV doc pm : Value) (an : Option Addr) (cdv ct : Value) (us ws : List Value), us.length = n → ws.length = ks.length → bindArgs (PySem.W.fnOf x qual params body scope .none kV doc pm an cdv ct) ⟨us, ks.zip ws⟩ = pure (ps.zip (us ++ ws))) : KBn K fd ps n ks (fun us ws => us ++ ws) (fun vs zs => vs ++ zs) := by
  obtain ⟨oc, od, dV, kV, doc, pm, an, cdv, ct, osl, rfl, lk, hcd, hD, hK⟩ := F.ex
  rcases hD with ⟨_, rfl⟩ | ⟨e, _⟩
  · refine ⟨fun s us ws X l1 l2 => .of_eq (h kV doc pm an cdv ct us ws l1 l2), fun r1 r2 => r1.append r2⟩
  · exact absurd rfl e
theorem cgK {n k k2 : Nat} {ks : List Str} {x : Str} {Fm : List D → M D} (G : FnK X.prog X.w X.K X.mg X.base x k n ks Fm) (hr : Room k2 X.A) (ha : DA X (e :: es) fs) (hkw : DKw X kws fk) (hk : k ≤ k2 := by decide) (hg : Gl X x := by rfl)
    (hall : (backToKw pos (keywordEach kws X.env)).all (·.1.isSome) = true := by rfl) (hks : (backToKw pos (keywordEach kws X.env)).filterMap (·.1) = ks := by rfl)
    (hdb : (x == ("__debug__" : Str)) = false := by decide) (he : starEach (e :: es) X.env = (false, eval e X.env) :: starEach es X.env := by rfl)
    (hpl : ((backTo pos (starEach (e :: es) X.env)).any (·.1) || (backToKw pos (keywordEach kws X.env)).any (·.1.isNone)) = false := by rfl) :
    DE X (.Call (.Name x p) (e :: es) kws pos) (xCallK n ks.length Fm fs fk) := by
  obtain ⟨⟨f, fd, ps, F, hm, kp, hb⟩⟩ := G
  refine PE.le (pe_callN F (hr.mono hk) hg hm kp hb pass0 ha hkw hall hks hdb he hpl) fun τ H Q ⟨ι, σ, h, d, h', S, ev, q⟩ => ?_
  obtain ⟨xs, h1, e1, ev⟩ := bnd_some ev
  obtain ⟨ys, h2, e2, ev⟩ := bnd_some ev
  split at ev
  · rename_i hc
    refine ⟨ι, σ, h, xs, h1, S, e1, fun ι1 vs H1 p1 R1 r1 t1 => ⟨ι1, σ, h1, ys, h2, S.step p1 R1 t1, e2, fun ι2 ws H2 p2 R2 r2 t2 => ?_⟩⟩
    refine ⟨r1.length.symm.trans hc.1, r2.length.symm.trans hc.2, ι2, h2, xs ++ ys, d, h', R2, (r1.mono p2 t2).append r2, by rw [List.length_append, hc.1, hc.2], ev, (q.step p1 t1).step p2 t2⟩
  · cases ev
end
end Dt

set_option Elab.async false
set_option linter.all false
set_option autoImplicit false
set_option maxRecDepth 100000
/-! DtW: what a run needs so that it ends as wished; steps for simp. -/
namespace Dt
open PySem
/-- keeps simp out of what is not yet reached -/
inductive Tag {α : Type} (m : M α) (h : Hd) (Q : α → Hd → Prop) : Type where
  | mk
inductive TagV (h : Hd) (Q : D → Hd → Prop) : Type where
  | mk
def W {α : Type} (m : M α) (h : Hd) (Q : α → Hd → Prop) (_ : Tag m h Q := Tag.mk) : Prop := ∃ a h', m h = some (a, h') ∧ Q a h'
def W0 {α : Type} (m : M α) (h : Hd) (Q : α → Hd → Prop) : Prop := ∃ a h', m h = some (a, h') ∧ Q a h'
theorem W_eq0 {α : Type} {m : M α} {h : Hd} {Q : α → Hd → Prop} : W m h Q = W0 m h Q := rfl
theorem W.mono {α : Type} {m : M α} {h : Hd} {Q Q' : α → Hd → Prop} (w : W m h Q) (k : ∀ a h', Q a h' → Q' a h') : W m h Q' := by
  obtain ⟨a, h', e, q⟩ := w
  exact ⟨a, h', e, k a h' q⟩
theorem W.ex {α : Type} {m : M α} {h : Hd} {a : α} (w : W m h fun x _ => x = a) : ∃ h', m h = some (a, h') := by
  obtain ⟨x, h', e, q⟩ := w
  exact ⟨h', by rw [e, q]⟩
variable {α β : Type} {h : Hd} {σ : Ev}
theorem V_some {a : α} {h' : Hd} {m : M α} {Q : α → Hd → Prop} (e : m h = some (a, h')) : W0 m h Q = Q a h' := by
  apply propext
  constructor
  · rintro ⟨x, h1, e1, q⟩; rw [e] at e1; cases e1; exact q
  · intro q; exact ⟨a, h', e, q⟩
theorem V_no {m : M α} {Q : α → Hd → Prop} (e : m h = none) : W0 m h Q = False := by
  apply propext
  constructor
  · rintro ⟨x, h1, e1, q⟩; rw [e] at e1; cases e1
  · exact False.elim
theorem V_ite {p : Prop} [Decidable p] {a : α} {h' : Hd} {m : M α} {Q : α → Hd → Prop} (e : m h = if p then some (a, h') else none) : W0 m h Q = (p ∧ Q a h') := by
  by_cases c : p
  · rw [if_pos c] at e; rw [V_some e]; simp only [c, true_and]
  · rw [if_neg c] at e; rw [V_no e]; simp only [c, false_and]
theorem V_ret {a : α} {Q : α → Hd → Prop} : W0 (ret a) h Q = Q a h := V_some rfl
theorem V_bnd {m : M α} {f : α → M β} {Q : β → Hd → Prop} : W0 (bnd m f) h Q = W0 m h fun a h' => W0 (f a) h' Q := by
  apply propext
  unfold W0
  constructor
  · rintro ⟨a, h', e, q⟩
    obtain ⟨x, h1, e1, e2⟩ := bnd_some e
    exact ⟨x, h1, e1, a, h', e2, q⟩
  · rintro ⟨x, h1, e1, a, h', e2, q⟩
    exact ⟨a, h', by unfold bnd; rw [e1]; exact e2, q⟩
theorem V_if {b : Bool} {m m' : M α} {Q : α → Hd → Prop} : W0 (if b = true then m else m') h Q = if b = true then W0 m h Q else W0 m' h Q := by
  split <;> rfl
theorem W_ret {a : α} {Q : α → Hd → Prop} : W (ret a) h Q = Q a h := V_ret
theorem W_bnd {m : M α} {f : α → M β} {Q : β → Hd → Prop} : W (bnd m f) h Q = W m h fun a h' => W (f a) h' Q := V_bnd
theorem W_none {Q : α → Hd → Prop} : W (fun _ => none) h Q = False := V_no (h := h) (m := fun _ => none) rfl
theorem W_some {a : α} {h' : Hd} {m : M α} {Q : α → Hd → Prop} (e : m h = some (a, h')) : W m h Q = Q a h' := V_some e
theorem W.of {a : α} {h' : Hd} {m : M α} {Q : α → Hd → Prop} (e : m h = some (a, h')) (q : Q a h') : W m h Q := ⟨a, h', e, q⟩
variable {Q : D → Hd → Prop} {QB : Bool → Hd → Prop} {QS : Fl → Hd → Prop} {QA : List D → Hd → Prop} {QE : Ev → Hd → Prop} {QU : Unit → Hd → Prop} {QR : Src → Hd → Prop} {QO : Option Int → Hd → Prop}
/-- a name's value -/
def WV (o : Option (Option D)) (h : Hd) (Q : D → Hd → Prop) (_ : TagV h Q := TagV.mk) : Prop := ∃ d, o = some (some d) ∧ Q d h
theorem WV_some {d : D} : WV (some (some d)) h Q = Q d h := by simp [WV]
theorem W_V {i : Nat} : W (xV i σ) h Q = WV σ[i]? h Q := by
  unfold W xV WV
  apply propext
  constructor
  · rintro ⟨a, h', e, q⟩
    split at e
    · rename_i d e1; cases e; exact ⟨_, e1, q⟩
    · cases e
  · rintro ⟨d, e, q⟩
    exact ⟨d, h, by rw [e], q⟩
theorem W_C {d : D} : W (xC d σ) h Q = Q d h := W_ret
theorem W_op {op : D → D → M D} {f g : Ev → M D} : W (xOp op f g σ) h Q = W (f σ) h fun x h1 => W (g σ) h1 fun y h2 => W (op x y) h2 Q := by
  unfold xOp; simp only [W_eq0, V_bnd]
theorem W_cmpT {op : D → D → M D} {f g : Ev → M D} : W (xCmpT op f g σ) h QB = W (f σ) h fun x h1 => W (g σ) h1 fun y h2 => W (op x y) h2 fun z h3 => W (isB z) h3 QB := by
  unfold xCmpT; simp only [W_eq0, V_bnd]
theorem W_isB {b : Bool} : W (isB (.bl b)) h QB = QB b h := W_ret
theorem W_un {op : D → M D} {f : Ev → M D} : W (xUn op f σ) h Q = W (f σ) h fun x h1 => W (op x) h1 Q := by
  unfold xUn; simp only [W_eq0, V_bnd]
theorem W_tru {f : Ev → M D} : W (xTru f σ) h QB = W (f σ) h fun x h1 => W (truM x) h1 QB := by
  unfold xTru; simp only [W_eq0, V_bnd]
theorem W_truB {b : Bool} : W (truM (.bl b)) h QB = QB b h := W_some rfl
theorem W_truI {i : Int} : W (truM (.int i)) h QB = QB (i != 0) h := W_some rfl
theorem W_andT {f g : Ev → M Bool} : W (xAndT f g σ) h QB = W (f σ) h fun b h1 => if b = true then W (g σ) h1 QB else QB false h1 := by
  unfold xAndT; simp only [W_eq0, V_bnd, V_if, V_ret]
theorem W_orT {f g : Ev → M Bool} : W (xOrT f g σ) h QB = W (f σ) h fun b h1 => if b = true then QB true h1 else W (g σ) h1 QB := by
  unfold xOrT; simp only [W_eq0, V_bnd, V_if, V_ret]
theorem W_notT {f : Ev → M Bool} : W (xNotT f σ) h QB = W (f σ) h fun b h1 => QB (!b) h1 := by
  unfold xNotT; simp only [W_eq0, V_bnd, V_ret]
theorem W_andV {f g : Ev → M D} : W (xAndV f g σ) h Q = W (f σ) h fun x h1 => W (isB x) h1 fun b h2 => if b = true then W (g σ) h2 Q else Q (.bl false) h2 := by
  unfold xAndV; simp only [W_eq0, V_bnd, V_if, V_ret]
theorem W_orV {f g : Ev → M D} : W (xOrV f g σ) h Q = W (f σ) h fun x h1 => W (isB x) h1 fun b h2 => if b = true then Q (.bl true) h2 else W (g σ) h2 Q := by
  unfold xOrV; simp only [W_eq0, V_bnd, V_if, V_ret]
theorem W_notV {f : Ev → M D} : W (xNotV f σ) h Q = W (f σ) h fun x h1 => W (isB x) h1 fun b h2 => Q (.bl (!b)) h2 := by
  unfold xNotV; simp only [W_eq0, V_bnd, V_ret]
theorem W_ife {t : Ev → M Bool} {f g : Ev → M D} : W (xIf t f g σ) h Q = W (t σ) h fun b h1 => if b = true then W (f σ) h1 Q else W (g σ) h1 Q := by
  unfold xIf; simp only [W_eq0, V_bnd, V_if]
theorem W_nil : W (xNil σ) h QA = QA [] h := W_ret
theorem W_cons {f : Ev → M D} {g : Ev → M (List D)} : W (xCons f g σ) h QA = W (f σ) h fun x h1 => W (g σ) h1 fun xs h2 => QA (x :: xs) h2 := by
  unfold xCons; simp only [W_eq0, V_bnd, V_ret]
theorem W_tup {g : Ev → M (List D)} : W (xTup g σ) h Q = W (g σ) h fun xs h1 => xs.length ≤ LIM ∧ Q (.tup xs) h1 := by
  unfold xTup; simp only [W_eq0, V_bnd]; congr; funext xs h1; exact V_ite rfl
theorem W_lst {g : Ev → M (List D)} : W (xLst g σ) h Q = W (g σ) h fun xs h1 => xs.length ≤ LIM ∧ Q (.ref h1.length) (h1 ++ [.lst xs]) := by
  unfold xLst; simp only [W_eq0, V_bnd]; congr; funext xs h1; exact V_ite rfl
theorem W_addI {i j : Int} : W (addM (.int i) (.int j)) h Q = Q (.int (i + j)) h := W_some rfl
theorem W_subI {i j : Int} : W (subM (.int i) (.int j)) h Q = Q (.int (i - j)) h := W_some rfl
theorem W_iaddI {i j : Int} : W (iaddM (.int i) (.int j)) h Q = Q (.int (i + j)) h := W_some rfl
theorem W_negI {i : Int} : W (negM (.int i)) h Q = Q (.int (-i)) h := W_some rfl
theorem W_mulI {i j : Int} : W (mulM (.int i) (.int j)) h Q = (((-18446744073709551616 < i ∧ i < 18446744073709551616) ∨ (-18446744073709551616 < j ∧ j < 18446744073709551616)) ∧ Q (.int (i * j)) h) := V_ite rfl
theorem W_fdivI {i j : Int} : W (fdivM (.int i) (.int j)) h Q = ((0 < j ∧ j < 1073741824) ∧ Q (.int (i / j)) h) := V_ite rfl
theorem W_modI {i j : Int} : W (modM (.int i) (.int j)) h Q = (0 < j ∧ Q (.int (i % j)) h) := V_ite rfl
theorem W_powI {i j : Int} : W (powM (.int i) (.int j)) h Q = ((0 ≤ j ∧ j ≤ 1000000 ∧ i.natAbs < 18446744073709551616) ∧ Q (.int (i ^ j.toNat)) h) := V_ite rfl
theorem W_cmpI {p : Int → Int → Bool} {i j : Int} : W (cmpM p (.int i) (.int j)) h Q = Q (.bl (p i j)) h := W_some rfl
theorem W_isB_bl {a b : Bool} : W (isM (.bl a) (.bl b)) h Q = Q (.bl (a == b)) h := W_some rfl
theorem W_isNB {b : Bool} : W (isM .non (.bl b)) h Q = Q (.bl false) h := W_some rfl
theorem W_isN {d : D} : W (isM d .non) h Q = Q (.bl (isNonD d)) h := W_some rfl
theorem W_isntB {a b : Bool} : W (isntM (.bl a) (.bl b)) h Q = Q (.bl (!(a == b))) h := W_some rfl
theorem W_isntN {d : D} : W (isntM d .non) h Q = Q (.bl (!isNonD d)) h := W_some rfl
theorem W_eq {x y : D} {p q : PyData} (e1 : toPy h DEEP x = some p) (e2 : toPy h DEEP y = some q) (s1 : SeqAt.shaped p = true) (s2 : SeqAt.shaped q = true) : W (eqM x y) h Q = Q (.bl (PyData.eqv p q)) h :=
  W_some (by unfold eqM; rw [e1, e2]; simp only [s1, s2, and_self, if_true])
theorem W_ne {x y : D} {p q : PyData} (e1 : toPy h DEEP x = some p) (e2 : toPy h DEEP y = some q) (s1 : SeqAt.shaped p = true) (s2 : SeqAt.shaped q = true) : W (neM x y) h Q = Q (.bl (!PyData.eqv p q)) h :=
  W_some (by unfold neM; rw [e1, e2]; simp only [s1, s2, and_self, if_true])
theorem W_eqI {i j : Int} : W (eqM (.int i) (.int j)) h Q = Q (.bl (i == j)) h := by
  rw [W_eq (p := .int i) (q := .int j) rfl rfl rfl rfl]
  rfl
theorem W_neI {i j : Int} : W (neM (.int i) (.int j)) h Q = Q (.bl (!(i == j))) h := by
  rw [W_ne (p := .int i) (q := .int j) rfl rfl rfl rfl]
  rfl
/-! statements -/
theorem W_seq {g g2 : Ev → M Fl} : W (xSeq g g2 σ) h QS = W (g σ) h fun r h1 => match r with
    | .nx σ' => W (g2 σ') h1 QS
    | .rt d => QS (.rt d) h1
    | .bk σ' => QS (.bk σ') h1
    | .ct σ' => QS (.ct σ') h1 := by
  unfold xSeq; simp only [W_eq0, V_bnd]; congr; funext r h1
  cases r <;> first | rfl | exact V_ret
theorem W_pass : W (xPass σ) h QS = QS (.nx σ) h := W_ret
theorem W_brk : W (xBreak σ) h QS = QS (.bk σ) h := W_ret
theorem W_cont : W (xCont σ) h QS = QS (.ct σ) h := W_ret
theorem W_drop {f : Ev → M D} : W (xDrop f σ) h QS = W (f σ) h fun _ h1 => QS (.nx σ) h1 := by
  unfold xDrop; simp only [W_eq0, V_bnd, V_ret]
theorem W_rt {f : Ev → M D} : W (xRet f σ) h QS = W (f σ) h fun x h1 => QS (.rt x) h1 := by
  unfold xRet; simp only [W_eq0, V_bnd, V_ret]
theorem W_rtN : W (xRetN σ) h QS = QS (.rt .non) h := W_ret
theorem W_ifS {c : Ev → M Bool} {g g2 : Ev → M Fl} : W (xIfS c g g2 σ) h QS = W (c σ) h fun b h1 => if b = true then W (g σ) h1 QS else W (g2 σ) h1 QS := by
  unfold xIfS; simp only [W_eq0, V_bnd, V_if]
theorem W_asg {f : Ev → M D} {t : D → Ev → M Ev} : W (xAsg f t σ) h QS = W (f σ) h fun d h1 => W (t d σ) h1 fun σ' h2 => QS (.nx σ') h2 := by
  unfold xAsg; simp only [W_eq0, V_bnd, V_ret]
theorem W_set {i : Nat} {d : D} : W (gSet i d σ) h QE = QE (σ.set i (some d)) h := W_ret
theorem W_gsNil : W (gsNil [] σ) h QE = QE σ h := W_some rfl
theorem W_gsCons {t : D → Ev → M Ev} {ts : List D → Ev → M Ev} {d : D} {ds : List D} : W (gsCons t ts (d :: ds) σ) h QE = W (t d σ) h fun σ' h1 => W (ts ds σ') h1 QE := W_bnd (m := t d σ) (f := fun σ' => ts ds σ')
theorem W_gTup {n : Nat} {ts : List D → Ev → M Ev} {xs : List D} : W (gTupD n ts (.tup xs) σ) h QE = (xs.length = n ∧ W (ts xs σ) h QE) := by
  apply propext
  by_cases c : xs.length = n
  · simp only [c, true_and]
    constructor
    · rintro ⟨a, h', e, q⟩; exact ⟨a, h', by simpa only [gTupD, itemsOf, c, if_true] using e, q⟩
    · rintro ⟨a, h', e, q⟩; exact ⟨a, h', by simpa only [gTupD, itemsOf, c, if_true] using e, q⟩
  · simp only [c, false_and, iff_false]
    rintro ⟨a, h', e, q⟩
    simp only [gTupD, itemsOf, c, if_false] at e
    cases e
theorem W_aug {i : Nat} {f : Ev → M D} {op : D → D → M D} : W (xAug i f op σ) h QS = WV σ[i]? h fun x h => W (f σ) h fun y h1 => W (op x y) h1 fun z h2 => QS (.nx (σ.set i (some z))) h2 := by
  unfold WV
  apply propext
  constructor
  · rintro ⟨a, h', e, q⟩
    unfold xAug at e
    split at e
    · rename_i d e1
      refine ⟨d, e1, ?_⟩
      have : W0 (bnd (f σ) (fun y => bnd (op d y) fun z => ret (.nx (σ.set i (some z))))) h QS := ⟨a, h', e, q⟩
      simpa only [W_eq0, V_bnd, V_ret] using this
    · cases e
  · rintro ⟨d, e1, q⟩
    have : W0 (bnd (f σ) (fun y => bnd (op d y) fun z => ret (.nx (σ.set i (some z))))) h QS := by simpa only [W_eq0, V_bnd, V_ret] using q
    obtain ⟨a, h', e, q⟩ := this
    exact ⟨a, h', by unfold xAug; rw [e1]; exact e, q⟩
/-! calls -/
theorem W_call {F : List D → M D} {dds : List D} {fs : Ev → M (List D)} : W (xCall F dds fs σ) h Q = W (fs σ) h fun xs h1 => W (F (xs ++ dds)) h1 Q := by
  unfold xCall; simp only [W_eq0, V_bnd]
theorem W_B {op : List D → M D} {fs : Ev → M (List D)} : W (xB op fs σ) h Q = W (fs σ) h fun xs h1 => W (op xs) h1 Q := by
  unfold xB; simp only [W_eq0, V_bnd]
def RtN (Q : D → Hd → Prop) : Fl → Hd → Prop := fun r h => match r with
  | .rt d => Q d h
  | .nx _ => Q .non h
  | _ => False
theorem RtN_rt {d : D} : RtN Q (.rt d) h = Q d h := rfl
theorem RtN_nx : RtN Q (.nx σ) h = Q .non h := rfl
theorem W_run {n N : Nat} {g : Ev → M Fl} {ds : List D} (e : ds.length = n) : W (runD n N g ds) h Q = W (g (startD N ds)) h (RtN Q) := by
  unfold W runD; apply propext; rw [if_pos e]
  constructor
  · rintro ⟨a, h', e, q⟩
    split at e
    · rename_i e1; cases e; exact ⟨_, _, e1, q⟩
    · rename_i e1; cases e; exact ⟨_, _, e1, q⟩
    · cases e
  · rintro ⟨a, h', e, q⟩
    rw [e]
    cases a with
    | rt d => exact ⟨_, _, rfl, q⟩
    | nx σ => exact ⟨_, _, rfl, q⟩
    | bk σ => exact q.elim
    | ct σ => exact q.elim
theorem w_run {n N : Nat} {g : Ev → M Fl} {ds : List D} (e : ds.length = n) (w : W (g (startD N ds)) h (RtN Q)) : W (runD n N g ds) h Q := (W_run e).mpr w
theorem W_lenT {xs : List D} : W (lenM [.tup xs]) h Q = Q (.int (xs.length : Nat)) h := W_some rfl
/-- the items behind a ref -/
theorem W_lenL {n : Nat} {xs : List D} (e : h[n]? = some (.lst xs)) : W (lenM [.ref n]) h Q = Q (.int (xs.length : Nat)) h := W_some (by simp only [lenM, itemsOf, e])
theorem W_lenR {n : Nat} {xs : List D} (e : h[n]? = some (.ro xs)) : W (lenM [.ref n]) h Q = Q (.int (xs.length : Nat)) h := W_some (by simp only [lenM, itemsOf, e])
theorem W_abs {i : Int} : W (absM [.int i]) h Q = Q (.int (if i < 0 then -i else i)) h := W_some rfl
theorem W_intI {i : Int} : W (intM [.int i]) h Q = Q (.int i) h := W_some rfl
theorem W_intB {b : Bool} : W (intM [.bl b]) h Q = Q (.int (if b then 1 else 0)) h := W_some rfl
theorem W_ixT {xs : List D} {k : Int} {d : D} (e : L2.atI xs k = some d) : W (ixM (.tup xs) (.int k)) h Q = Q d h := W_some (by simp only [ixM, itemsOf, e])
theorem W_ixL {n : Nat} {xs : List D} {k : Int} {d : D} (e : h[n]? = some (.lst xs)) (e2 : L2.atI xs k = some d) : W (ixM (.ref n) (.int k)) h Q = Q d h := W_some (by simp only [ixM, itemsOf, e, e2])
theorem W_ixR {n : Nat} {xs : List D} {k : Int} {d : D} (e : h[n]? = some (.ro xs)) (e2 : L2.atI xs k = some d) : W (ixM (.ref n) (.int k)) h Q = Q d h := W_some (by simp only [ixM, itemsOf, e, e2])
theorem W_noPart : W (xNoPart σ) h QO = QO none h := W_ret
theorem W_part {f : Ev → M D} : W (xPart f σ) h QO = W (f σ) h fun x h1 => ∃ i, x = .int i ∧ QO (some i) h1 := by
  unfold xPart; simp only [W_eq0, V_bnd]; congr; funext x h1; apply propext
  constructor
  · rintro ⟨a, h', e, q⟩
    cases x <;> dsimp only at e <;> cases e
    exact ⟨_, rfl, q⟩
  · rintro ⟨i, rfl, q⟩
    exact ⟨_, _, rfl, q⟩
theorem W_sl {f : Ev → M D} {l u : Ev → M (Option Int)} : W (xSl f l u σ) h Q = W (f σ) h fun x h1 => W (l σ) h1 fun lo h2 => W (u σ) h2 fun hi h3 => W (slM x lo hi) h3 Q := by
  unfold xSl; simp only [W_eq0, V_bnd]
theorem W_slL {n : Nat} {xs : List D} {lo hi : Option Int} (e : h[n]? = some (.lst xs)) : W (slM (.ref n) lo hi) h Q = Q (.ref h.length) (h ++ [.lst (cutD xs lo hi)]) := W_some (by simp only [slM, listOf, e])
theorem W_addL {n m : Nat} {xs ys : List D} (e : h[n]? = some (.lst xs)) (e2 : h[m]? = some (.lst ys)) (hl : xs.length + ys.length ≤ LIM) : W (addM (.ref n) (.ref m)) h Q = Q (.ref h.length) (h ++ [.lst (xs ++ ys)]) := W_some (by simp only [addM, e, e2, hl, if_true])
theorem W_lm {op : D → D → M D} {fo fe : Ev → M D} : W (xLM op fo fe σ) h Q = W (fo σ) h fun x h1 => W (isLst x) h1 fun _ h2 => W (fe σ) h2 fun y h3 => W (op x y) h3 Q := by
  unfold xLM; simp only [W_eq0, V_bnd]
theorem W_lm0 {op : D → M D} {fo : Ev → M D} : W (xLM0 op fo σ) h Q = W (fo σ) h fun x h1 => W (isLst x) h1 fun _ h2 => W (op x) h2 Q := by
  unfold xLM0; simp only [W_eq0, V_bnd]
theorem W_isLst {n : Nat} {xs : List D} (e : h[n]? = some (.lst xs)) : W (isLst (.ref n)) h QU = QU () h := W_some (by simp only [isLst, e])
theorem W_app {n : Nat} {xs : List D} {y : D} (e : h[n]? = some (.lst xs)) (hl : xs.length < LIM) : W (appM (.ref n) y) h Q = Q .non (h.set n (.lst (xs ++ [y]))) := W_some (by simp only [appM, e, hl, if_true])
theorem W_rev {n : Nat} {xs : List D} (e : h[n]? = some (.lst xs)) : W (revM (.ref n)) h Q = Q .non (h.set n (.lst xs.reverse)) := W_some (by simp only [revM, e])
theorem W_revSl {n : Nat} {xs : List D} (e : h[n]? = some (.lst xs)) : W (revSlM (.ref n)) h Q = Q (.ref h.length) (h ++ [.lst xs.reverse]) := W_some (by simp only [revSlM, listOf, e])
theorem W_listL {n : Nat} {xs : List D} (e : h[n]? = some (.lst xs)) : W (listM [.ref n]) h Q = Q (.ref h.length) (h ++ [.lst xs]) := W_some (by simp only [listM, itemsOf, e])
theorem W_listT {xs : List D} : W (listM [.tup xs]) h Q = Q (.ref h.length) (h ++ [.lst xs]) := W_some rfl
/-! loops -/
theorem W_iter {f : Ev → M D} : W (xIter f σ) h QR = W (f σ) h fun x h1 => W (srcSeq x) h1 QR := by
  unfold xIter; simp only [W_eq0, V_bnd]
theorem W_range1 {fs : Ev → M (List D)} : W (xRange1 fs σ) h QR = W (fs σ) h fun xs h1 => ∃ j, xs = [.int j] ∧ (-4611686018427387904 ≤ j ∧ j < 4611686018427387904) ∧ QR (srcRange 0 j.toNat) h1 := by
  unfold xRange1; simp only [W_eq0, V_bnd]; congr; funext xs h1; unfold W0; apply propext
  constructor
  · rintro ⟨a, h', e, q⟩
    split at e
    · rename_i j
      split at e
      · rename_i c; cases e; exact ⟨j, rfl, c, q⟩
      · cases e
    · cases e
  · rintro ⟨j, rfl, c, q⟩
    exact ⟨_, _, by simp only [c, and_self, if_true], q⟩
theorem W_range2 {fs : Ev → M (List D)} : W (xRange2 fs σ) h QR = W (fs σ) h fun xs h1 => ∃ i j, xs = [.int i, .int j] ∧ ((-4611686018427387904 ≤ i ∧ i < 4611686018427387904) ∧ -4611686018427387904 ≤ j ∧ j < 4611686018427387904) ∧ QR (srcRange i (j - i).toNat) h1 := by
  unfold xRange2; simp only [W_eq0, V_bnd]; congr; funext xs h1; unfold W0; apply propext
  constructor
  · rintro ⟨a, h', e, q⟩
    split at e
    · rename_i i j
      split at e
      · rename_i c; cases e; exact ⟨i, j, rfl, c, q⟩
      · cases e
    · cases e
  · rintro ⟨i, j, rfl, c, q⟩
    exact ⟨_, _, by simp only [c, and_self, if_true], q⟩
theorem W_forE {s : Ev → M Src} {t : D → Ev → M Ev} {g : Ev → M Fl} : W (xFor s t g σ) h QS = W (s σ) h fun src h1 => W (forL src t g (src.fuel + 1) 0 σ) h1 QS := by
  unfold xFor; simp only [W_eq0, V_bnd]
/-- one turn of a loop, on: i -/
def Turn (t : D → Ev → M Ev) (g : Ev → M Fl) (d : D) (σ : Ev) (h : Hd) (N : Ev → Hd → Prop) (QS : Fl → Hd → Prop) : Prop :=
  W (t d σ) h fun σ1 h1 => W (g σ1) h1 fun r h2 => match r with
    | .nx σ' => N σ' h2
    | .ct σ' => N σ' h2
    | .bk σ' => QS (.nx σ') h2
    | .rt d => QS (.rt d) h2
theorem w_forL {src : Src} {t : D → Ev → M Ev} {g : Ev → M Fl} {n : Nat} (I : Nat → Ev → Hd → Prop)
    (hs : ∀ i σ h, i ≤ n → I i σ h → (i = n ∧ src.item h i = some none) ∨ i < n ∧ ∃ d, src.item h i = some (some d) ∧ Turn t g d σ h (I (i + 1)) QS)
    (hd : ∀ σ h, I n σ h → QS (.nx σ) h) : ∀ (k i : Nat) (σ : Ev) (h : Hd), i ≤ n → n < i + k → I i σ h → W (forL src t g k i σ) h QS := by
  intro k
  induction k with
  | zero => intro i σ h a b; omega
  | succ k ih =>
    intro i σ h hi hk hI
    rcases hs i σ h hi hI with ⟨rfl, e⟩ | ⟨hl, d, e, T⟩
    · exact ⟨_, h, by simp only [forL, e], hd σ h hI⟩
    · have T2 : W (bnd (t d σ) g) h fun r h2 => match r with
        | .nx σ' => I (i + 1) σ' h2
        | .ct σ' => I (i + 1) σ' h2
        | .bk σ' => QS (.nx σ') h2
        | .rt d => QS (.rt d) h2 := by rw [W_bnd]; exact T
      obtain ⟨r, h2, e2, q⟩ := T2
      cases r with
      | nx σ' =>
        obtain ⟨a, h3, e3, q3⟩ := ih (i + 1) σ' h2 (by omega) (by omega) q
        exact ⟨a, h3, by simp only [forL, e, e2]; exact e3, q3⟩
      | ct σ' =>
        obtain ⟨a, h3, e3, q3⟩ := ih (i + 1) σ' h2 (by omega) (by omega) q
        exact ⟨a, h3, by simp only [forL, e, e2]; exact e3, q3⟩
      | bk σ' => exact ⟨_, h2, by simp only [forL, e, e2], q⟩
      | rt d => exact ⟨_, h2, by simp only [forL, e, e2], q⟩
/-- range(..) -/
theorem w_forR {lo : Int} {n : Nat} {t : D → Ev → M Ev} {g : Ev → M Fl} (I : Nat → Ev → Hd → Prop) (h0 : I 0 σ h)
    (hs : ∀ i σ h, i < n → I i σ h → Turn t g (.int (lo + (i : Int))) σ h (I (i + 1)) QS) (hd : ∀ σ h, I n σ h → QS (.nx σ) h) : W (forL (srcRange lo n) t g ((srcRange lo n).fuel + 1) 0 σ) h QS :=
  w_forL (n := n) I (fun i σ h hi hI => by
    by_cases c : i < n
    · exact .inr ⟨c, _, by simp only [srcRange, c, if_true], hs i σ h c hI⟩
    · exact .inl ⟨by omega, by simp only [srcRange, c, if_false]⟩) hd _ 0 σ h (Nat.zero_le _) (by show n < 0 + (n + 1); omega) h0
theorem W_srcT {xs : List D} : W (srcSeq (.tup xs)) h QR = QR ⟨fun _ i => some xs[i]?, xs.length⟩ h := W_some rfl
def srcLst (n k : Nat) : Src := ⟨fun h i => match listOf h (.ref n) with
      | some xs => some xs[i]?
      | none => none, k⟩
theorem W_srcL {n : Nat} {xs : List D} (e : h[n]? = some (.lst xs)) : W (srcSeq (.ref n)) h QR = QR (srcLst n xs.length) h := W_some (by simp only [srcSeq, listOf, e]; rfl)
/-- a list that stays -/
theorem w_forS {a : Nat} {xs : List D} {t : D → Ev → M Ev} {g : Ev → M Fl} (I : Nat → Ev → Hd → Prop) (h0 : I 0 σ h) (hl : ∀ i σ h, I i σ h → h[a]? = some (.lst xs))
    (hs : ∀ i σ h (hi : i < xs.length), I i σ h → Turn t g xs[i] σ h (I (i + 1)) QS) (hd : ∀ σ h, I xs.length σ h → QS (.nx σ) h) : W (forL (srcLst a xs.length) t g ((srcLst a xs.length).fuel + 1) 0 σ) h QS :=
  w_forL (n := xs.length) I (fun i σ h hi hI => by
    have e := hl i σ h hI
    by_cases c : i < xs.length
    · exact .inr ⟨c, xs[i], by simp only [srcLst, listOf, e, List.getElem?_eq_getElem c], hs i σ h c hI⟩
    · exact .inl ⟨by omega, by simp only [srcLst, listOf, e, List.getElem?_eq_none (Nat.le_of_not_lt c)]⟩) hd _ 0 σ h (Nat.zero_le _) (by show xs.length < 0 + (xs.length + 1); omega) h0
theorem W_revE {fs : Ev → M (List D)} : W (xRev fs σ) h QR = W (fs σ) h fun xs h1 => ∃ x, xs = [x] ∧ W (srcRev x) h1 QR := by
  unfold xRev; simp only [W_eq0, V_bnd]; congr; funext xs h1; apply propext
  constructor
  · intro w
    rcases xs with _ | ⟨x, _ | ⟨y, r⟩⟩
    · obtain ⟨_, _, e, _⟩ := w; cases e
    · exact ⟨x, rfl, w⟩
    · obtain ⟨_, _, e, _⟩ := w; cases e
  · rintro ⟨x, rfl, w⟩; exact w
def srcRv (n : Nat) (k : Nat) : Src := ⟨fun h i => if i < k then match listOf h (.ref n) with
      | some ys => match ys[k - 1 - i]? with
        | some d => some (some d)
        | none => none
      | none => none else some none, k⟩
theorem W_srcRev {n : Nat} {xs : List D} (e : h[n]? = some (.lst xs)) : W (srcRev (.ref n)) h QR = QR (srcRv n xs.length) h := W_some (by simp only [srcRev, listOf, e]; rfl)
theorem w_forRv {a : Nat} {xs : List D} {t : D → Ev → M Ev} {g : Ev → M Fl} (I : Nat → Ev → Hd → Prop) (h0 : I 0 σ h) (hl : ∀ i σ h, I i σ h → h[a]? = some (.lst xs))
    (hs : ∀ i σ h (hi : i < xs.length), I i σ h → Turn t g (xs[xs.length - 1 - i]'(by omega)) σ h (I (i + 1)) QS) (hd : ∀ σ h, I xs.length σ h → QS (.nx σ) h) : W (forL (srcRv a xs.length) t g ((srcRv a xs.length).fuel + 1) 0 σ) h QS :=
  w_forL (n := xs.length) I (fun i σ h hi hI => by
    have e := hl i σ h hI
    by_cases c : i < xs.length
    · exact .inr ⟨c, xs[xs.length - 1 - i]'(by omega), by simp only [srcRv, listOf, e, c, if_true, List.getElem?_eq_getElem (show xs.length - 1 - i < xs.length by omega)], hs i σ h c hI⟩
    · exact .inl ⟨by omega, by simp only [srcRv, c, if_false]⟩) hd _ 0 σ h (Nat.zero_le _) (by show xs.length < 0 + (xs.length + 1); omega) h0
theorem W_compE {s : Ev → M Src} {t : D → Ev → M Ev} {c : Ev → M Bool} {f : Ev → M D} {vs : List Nat} : W (xComp s t c f vs σ) h Q = W (s σ) h fun src h1 => W (compL src t c f h1.length (wipeD σ vs) (src.fuel + 1) 0) (h1 ++ [.lst []]) Q := by
  unfold xComp; simp only [W_eq0, V_bnd]; rfl
/-- one turn of a comprehension -/
def TurnC (t : D → Ev → M Ev) (c : Ev → M Bool) (f : Ev → M D) (r : Nat) (d : D) (σ : Ev) (h : Hd) (N : Hd → Prop) : Prop :=
  W (t d σ) h fun σ1 h1 => W (c σ1) h1 fun b h2 => if b = true then W (f σ1) h2 fun y h4 => ∃ acc, h4[r]? = some (.lst acc) ∧ acc.length < LIM ∧ N (h4.set r (.lst (acc ++ [y]))) else N h2
theorem w_compL {src : Src} {t : D → Ev → M Ev} {c : Ev → M Bool} {f : Ev → M D} {r n : Nat} (I : Nat → Hd → Prop)
    (hs : ∀ i h, i ≤ n → I i h → (i = n ∧ src.item h i = some none) ∨ i < n ∧ ∃ d, src.item h i = some (some d) ∧ TurnC t c f r d σ h (I (i + 1)))
    (hd : ∀ h, I n h → Q (.ref r) h) : ∀ (k i : Nat) (h : Hd), i ≤ n → n < i + k → I i h → W (compL src t c f r σ k i) h Q := by
  intro k
  induction k with
  | zero => intro i h a b; omega
  | succ k ih =>
    intro i h hi hk hI
    rcases hs i h hi hI with ⟨rfl, e⟩ | ⟨hl, d, e, T⟩
    · exact ⟨_, h, by simp only [compL, e], hd h hI⟩
    · have T2 : W (bnd (t d σ) (fun σ2 => bnd (c σ2) fun b => if b = true then bnd (f σ2) (fun y h4 => match h4[r]? with
        | some (.lst acc) => if acc.length < LIM then some ((), h4.set r (.lst (acc ++ [y]))) else none
        | _ => none) else ret ())) h fun _ h' => I (i + 1) h' := by
        rw [W_bnd]
        refine W.mono T fun σ1 h1 w1 => ?_
        rw [W_bnd]
        refine W.mono w1 fun b h2 w2 => ?_
        cases b with
        | false => exact ⟨_, _, rfl, w2⟩
        | true =>
          simp only [if_true] at w2
          rw [if_pos rfl, W_bnd]
          refine W.mono w2 fun y h4 w4 => ?_
          obtain ⟨acc, ea, hl, q⟩ := w4
          exact ⟨(), _, by simp only [ea, hl, if_true], q⟩
      obtain ⟨u, h2, e2, q⟩ := T2
      obtain ⟨a, h3, e3, q3⟩ := ih (i + 1) h2 (by omega) (by omega) q
      exact ⟨a, h3, by
        simp only [compL, e]
        exact Eq.trans (congrArg (fun o : Option (Unit × Hd) => match o with
          | none => none
          | some (_, h') => compL src t c f r σ k (i + 1) h') e2) e3, q3⟩
theorem w_compR {lo : Int} {n r : Nat} {t : D → Ev → M Ev} {c : Ev → M Bool} {f : Ev → M D} (I : Nat → Hd → Prop) (h0 : I 0 h)
    (hs : ∀ i h, i < n → I i h → TurnC t c f r (.int (lo + (i : Int))) σ h (I (i + 1))) (hd : ∀ h, I n h → Q (.ref r) h) : W (compL (srcRange lo n) t c f r σ ((srcRange lo n).fuel + 1) 0) h Q :=
  w_compL (n := n) I (fun i h hi hI => by
    by_cases c : i < n
    · exact .inr ⟨c, _, by simp only [srcRange, c, if_true], hs i h c hI⟩
    · exact .inl ⟨by omega, by simp only [srcRange, c, if_false]⟩) hd _ 0 h (Nat.zero_le _) (by show n < 0 + (n + 1); omega) h0
theorem w_compS {a r : Nat} {xs : List D} {t : D → Ev → M Ev} {c : Ev → M Bool} {f : Ev → M D} (I : Nat → Hd → Prop) (h0 : I 0 h) (hl : ∀ i h, I i h → h[a]? = some (.lst xs))
    (hs : ∀ i h (hi : i < xs.length), I i h → TurnC t c f r xs[i] σ h (I (i + 1))) (hd : ∀ h, I xs.length h → Q (.ref r) h) : W (compL (srcLst a xs.length) t c f r σ ((srcLst a xs.length).fuel + 1) 0) h Q :=
  w_compL (n := xs.length) I (fun i h hi hI => by
    have e := hl i h hI
    by_cases c : i < xs.length
    · exact .inr ⟨c, xs[i], by simp only [srcLst, listOf, e, List.getElem?_eq_getElem c], hs i h c hI⟩
    · exact .inl ⟨by omega, by simp only [srcLst, listOf, e, List.getElem?_eq_none (Nat.le_of_not_lt c)]⟩) hd _ 0 h (Nat.zero_le _) (by show xs.length < 0 + (xs.length + 1); omega) h0
theorem W_yes : W (xYes σ) h QB = QB true h := W_ret
theorem lt_set {γ : Type} {l : List γ} {i n : Nat} {c : γ} (e : i < l.length) : i < (l.set n c).length := by rw [List.length_set]; exact e
theorem rd_self {i : Nat} {v : Option D} (hl : i < σ.length) : (σ.set i v)[i]? = some v := by simp [hl]
theorem rd_ne {i j : Nat} {v : Option D} (hij : i ≠ j) : (σ.set i v)[j]? = σ[j]? := List.getElem?_set_ne hij
/-! ### the heap grows; the deck at 1 stays a deck -/
def Dk (h : Hd) : Prop := ∃ ns : List Int, h[1]? = some (.lst (ns.map D.int))
structure Fr (S : List Nat) (h h' : Hd) : Prop where
  le : h.length ≤ h'.length
  same : ∀ i, i < h.length → i ∉ S → i ≠ 1 → h'[i]? = h[i]?
  dk : Dk h → Dk h'
theorem Fr.refl {S : List Nat} {h : Hd} : Fr S h h := ⟨Nat.le_refl _, fun _ _ _ _ => rfl, id⟩
theorem Fr.trans {S : List Nat} {h h1 h2 : Hd} (a : Fr S h h1) (b : Fr S h1 h2) : Fr S h h2 := ⟨Nat.le_trans a.le b.le, fun i hi hs h1 => (b.same i (Nat.lt_of_lt_of_le hi a.le) hs h1).trans (a.same i hi hs h1), b.dk ∘ a.dk⟩
theorem Fr.keep {S : List Nat} {h h1 : Hd} (a : Fr S h h1) {i : Nat} {c : Cell} (e : h[i]? = some c) (hs : i ∉ S := by simp) (hi1 : i ≠ 1 := by omega) : h1[i]? = some c := (a.same i (List.getElem?_eq_some_iff.mp e).1 hs hi1).trans e
theorem Dk.lt {h : Hd} (d : Dk h) : 1 < h.length := by
  obtain ⟨ns, e⟩ := d
  exact (List.getElem?_eq_some_iff.mp e).1
theorem Fr.push {S : List Nat} {h : Hd} {c : Cell} : Fr S h (h ++ [c]) := ⟨by simp, fun i hi _ _ => List.getElem?_append_left hi, fun ⟨ns, e⟩ => ⟨ns, by rw [List.getElem?_append_left (List.getElem?_eq_some_iff.mp e).1]; exact e⟩⟩
theorem Fr.write {S : List Nat} {h : Hd} {n : Nat} {c : Cell} (hn : n ∈ S) (h1 : n ≠ 1) : Fr S h (h.set n c) := ⟨by simp, fun i hi hs _ => List.getElem?_set_ne (fun z => by subst z; exact hs hn), fun ⟨ns, e⟩ => ⟨ns, by rw [List.getElem?_set_ne h1]; exact e⟩⟩
theorem Fr.mono {S S' : List Nat} {h h' : Hd} (a : Fr S h h') (k : ∀ i, i < h.length → i ∈ S → i ∈ S') : Fr S' h h' := ⟨a.le, fun i hi hs h1 => a.same i hi (fun z => hs (k i hi z)) h1, a.dk⟩
/-- drop what is fresh -/
theorem Fr.fresh {S : List Nat} {h h' : Hd} {n : Nat} (a : Fr (n :: S) h h') (hn : h.length ≤ n) : Fr S h h' := a.mono fun i hi z => by
  rcases List.mem_cons.mp z with rfl | z
  · omega
  · exact z
theorem get_push {h : Hd} {c : Cell} : (h ++ [c])[h.length]? = some c := by simp
theorem get_pushL {h : Hd} {c c' : Cell} {n : Nat} (e : h[n]? = some c) : (h ++ [c'])[n]? = some c := by rw [List.getElem?_append_left (List.getElem?_eq_some_iff.mp e).1]; exact e
theorem get_set {h : Hd} {c c' : Cell} {n : Nat} (e : h[n]? = some c) : (h.set n c')[n]? = some c' := by simp [(List.getElem?_eq_some_iff.mp e).1]
theorem get_lt {h : Hd} {c : Cell} {n : Nat} (e : h[n]? = some c) : n < h.length := (List.getElem?_eq_some_iff.mp e).1
end Dt

set_option Elab.async false
set_option linter.all false
set_option autoImplicit false
set_option maxRecDepth 100000
/-! DtR: values that stand for plain trees. -/
namespace Dt
open PySem
inductive All2 {α β : Type} (r : α → β → Prop) : List α → List β → Prop where
  | nil : All2 r [] []
  | cons {a : α} {b : β} {as : List α} {bs : List β} : r a b → All2 r as bs → All2 r (a :: as) (b :: bs)
theorem All2.len {α β : Type} {r : α → β → Prop} {as : List α} {bs : List β} (h : All2 r as bs) : as.length = bs.length := by
  induction h with
  | nil => rfl
  | cons _ _ ih => simp [ih]
theorem All2.imp {α β : Type} {r s : α → β → Prop} (k : ∀ a b, r a b → s a b) {as : List α} {bs : List β} (h : All2 r as bs) : All2 s as bs := by
  induction h with
  | nil => exact .nil
  | cons a _ ih => exact .cons (k _ _ a) ih
theorem All2.app {α β : Type} {r : α → β → Prop} {as as' : List α} {bs bs' : List β} (h : All2 r as bs) (h' : All2 r as' bs') : All2 r (as ++ as') (bs ++ bs') := by
  induction h with
  | nil => exact h'
  | cons a _ ih => exact .cons a ih
theorem All2.get {α β : Type} {r : α → β → Prop} {as : List α} {bs : List β} (h : All2 r as bs) (i : Nat) (ha : i < as.length) (hb : i < bs.length) : r as[i] bs[i] := by
  induction h generalizing i with
  | nil => cases ha
  | cons a _ ih => cases i with
    | zero => exact a
    | succ i => exact ih i (by simpa using ha) (by simpa using hb)
theorem All2.map {α β γ : Type} {r : α → β → Prop} {f : γ → α} {g : γ → β} (k : ∀ c, r (f c) (g c)) (cs : List γ) : All2 r (cs.map f) (cs.map g) := by
  induction cs with
  | nil => exact .nil
  | cons c cs ih => exact .cons (k c) ih
theorem strOk_of (s : String) : PyData.strOk (Str.ofString s) = true := by
  rw [Str.ofString_eq_toList]
  unfold PyData.strOk
  simp only [Array.all_eq_true, decide_eq_true_eq]
  intro i hi
  simp only [List.getElem_toArray, List.getElem_map]
  exact Nat.lt_of_lt_of_le (Nat.lt_of_le_of_lt (Nat.le_refl _) (by
    have := (s.toList[i]'(by simpa using hi)).valid
    rcases this with h | h
    · exact Nat.lt_trans h (by decide)
    · exact h.2)) (Nat.le_refl _)
def Rp (lo w : Nat) (h : Hd) : Nat → D → PyData → Prop
  | 0, _, _ => False
  | d + 1, x, p => match p with
    | .none => x = .non
    | .bool b => x = .bl b
    | .int i => x = .int i
    | .str s => ∃ t, x = .str t ∧ s = Str.ofString t
    | .tuple ps => ∃ xs, x = .tup xs ∧ ps.length ≤ w ∧ All2 (Rp lo w h d) xs ps
    | .list ps => ∃ n xs, x = .ref n ∧ (lo ≤ n ∧ n ≠ 1) ∧ h[n]? = some (.lst xs) ∧ ps.length ≤ w ∧ All2 (Rp lo w h d) xs ps
    | .dict _ => False
theorem Rp.frS {lo w : Nat} {h h' : Hd} {S : List Nat} (F : Fr S h h') (hS : ∀ s ∈ S, s < lo) : ∀ {d : Nat} {x : D} {p : PyData}, Rp lo w h d x p → Rp lo w h' d x p := by
  intro d
  induction d with
  | zero => intro x p r; exact r
  | succ d ih =>
    intro x p r
    cases p with
    | none => exact r
    | bool b => exact r
    | int i => exact r
    | str s => exact r
    | tuple ps => obtain ⟨xs, e, hl, a⟩ := r; exact ⟨xs, e, hl, a.imp fun _ _ z => ih z⟩
    | list ps => obtain ⟨n, xs, e, h1, e2, hl, a⟩ := r; exact ⟨n, xs, e, h1, F.keep e2 (fun z => by have := hS _ z; omega) h1.2, hl, a.imp fun _ _ z => ih z⟩
    | dict _ => exact r
theorem Rp.fr {lo w : Nat} {h h' : Hd} (F : Fr [] h h') {d : Nat} {x : D} {p : PyData} (r : Rp lo w h d x p) : Rp lo w h' d x p := r.frS F fun _ z => by cases z
theorem Rp.up {lo lo' w w' d d' : Nat} {h : Hd} (hlo : lo' ≤ lo) (hw : w ≤ w') (hd : d ≤ d') {x : D} {p : PyData} (r : Rp lo w h d x p) : Rp lo' w' h d' x p := by
  induction d generalizing d' x p with
  | zero => exact r.elim
  | succ d ih =>
    obtain ⟨d', rfl⟩ : ∃ e, d' = e + 1 := ⟨d' - 1, by omega⟩
    cases p with
    | none => exact r
    | bool b => exact r
    | int i => exact r
    | str s => exact r
    | tuple ps => obtain ⟨xs, e, hl, a⟩ := r; exact ⟨xs, e, Nat.le_trans hl hw, a.imp fun _ _ z => ih (by omega) z⟩
    | list ps => obtain ⟨n, xs, e, h1, e2, hl, a⟩ := r; exact ⟨n, xs, e, ⟨by omega, h1.2⟩, e2, Nat.le_trans hl hw, a.imp fun _ _ z => ih (by omega) z⟩
    | dict _ => exact r
theorem toPys_of {h : Hd} {n : Nat} {r : D → PyData → Prop} (k : ∀ x p m, r x p → n ≤ m → toPy h m x = some p) {xs : List D} {ps : List PyData} (a : All2 r xs ps) : ∀ m, n + ps.length + 1 ≤ m → toPys h m xs = some ps := by
  induction a with
  | nil => intro m hm; obtain ⟨m, rfl⟩ : ∃ e, m = e + 1 := ⟨m - 1, by omega⟩; rfl
  | cons c _ ih =>
    intro m hm
    obtain ⟨m, rfl⟩ : ∃ e, m = e + 1 := ⟨m - 1, by omega⟩
    simp only [List.length_cons] at hm
    simp only [toPys, k _ _ m c (by omega), ih m (by omega)]
theorem Rp.toPy {lo w : Nat} {h : Hd} : ∀ {d : Nat} {x : D} {p : PyData} (m : Nat), Rp lo w h d x p → (w + 2) * d ≤ m → toPy h m x = some p := by
  intro d
  induction d with
  | zero => intro x p m r; exact r.elim
  | succ d ih =>
    intro x p m r hm
    rw [Nat.mul_succ] at hm
    obtain ⟨m, rfl⟩ : ∃ e, m = e + 1 := ⟨m - 1, by omega⟩
    cases p with
    | none => obtain rfl := r; rfl
    | bool b => obtain rfl := r; rfl
    | int i => obtain rfl := r; rfl
    | str s => obtain ⟨t, rfl, rfl⟩ := r; rfl
    | tuple ps => obtain ⟨xs, rfl, hl, a⟩ := r; simp only [Dt.toPy, toPys_of (n := (w + 2) * d) (fun x p m r hm => ih m r hm) a m (by omega), Option.map_some]
    | list ps => obtain ⟨n, xs, rfl, h1, e2, hl, a⟩ := r; simp only [Dt.toPy, e2, toPys_of (n := (w + 2) * d) (fun x p m r hm => ih m r hm) a m (by omega), Option.map_some]
    | dict _ => exact r.elim
theorem lay_all {r : D → PyData → Prop} {d : Nat} (k : ∀ x p, r x p → p.canLay0 = true ∧ p.depth ≤ d) {xs : List D} {ps : List PyData} (a : All2 r xs ps) : PyData.canLayAll0 ps = true ∧ PyData.depthAll ps ≤ d := by
  induction a with
  | nil => exact ⟨rfl, Nat.zero_le _⟩
  | cons c _ ih => exact ⟨by rw [PyData.canLayAll0, (k _ _ c).1, ih.1]; rfl, by rw [PyData.depthAll]; exact Nat.max_le.mpr ⟨(k _ _ c).2, ih.2⟩⟩
theorem Rp.lay {lo w : Nat} {h : Hd} : ∀ {d : Nat} {x : D} {p : PyData}, Rp lo w h d x p → p.canLay0 = true ∧ p.depth ≤ d := by
  intro d
  induction d with
  | zero => intro x p r; exact r.elim
  | succ d ih =>
    intro x p r
    cases p with
    | none => exact ⟨rfl, by simp [PyData.depth]⟩
    | bool b => exact ⟨rfl, by simp [PyData.depth]⟩
    | int i => exact ⟨rfl, by simp [PyData.depth]⟩
    | str s => obtain ⟨t, rfl, rfl⟩ := r; exact ⟨by rw [PyData.canLay0]; exact strOk_of t, by simp [PyData.depth]⟩
    | tuple ps => obtain ⟨xs, rfl, hl, a⟩ := r; have := lay_all (fun x p r => ih r) a; exact ⟨by rw [PyData.canLay0]; exact this.1, by rw [PyData.depth]; omega⟩
    | list ps => obtain ⟨n, xs, rfl, h1, e2, hl, a⟩ := r; have := lay_all (fun x p r => ih r) a; exact ⟨by rw [PyData.canLay0]; exact this.1, by rw [PyData.depth]; omega⟩
    | dict _ => exact r.elim
theorem Rp.shaped {lo w : Nat} {h : Hd} {d : Nat} {x : D} {p : PyData} (r : Rp lo w h d x p) (hd : d ≤ 64) : SeqAt.shaped p = true := by
  unfold SeqAt.shaped
  rw [r.lay.1]
  simp only [Bool.true_and, decide_eq_true_eq]
  exact Nat.le_trans r.lay.2 hd
/-- what _law_plain tells -/
def pl : PyData → PyData
  | .list ps => .list (.bool true :: pls ps)
  | .tuple ps => .list (.bool false :: pls ps)
  | .none => .str (Str.ofString "None")
  | .bool b => .str (Str.ofString (if b then "True" else "False"))
  | .int i => .list [.bool false, .int i]
  | .str s => .list [.bool true, .str s]
  | .dict _ => .str (Str.ofString "another")
where pls : List PyData → List PyData
  | [] => []
  | p :: ps => pl p :: pls ps
theorem pls_len : ∀ ps : List PyData, (pl.pls ps).length = ps.length
  | [] => rfl
  | _ :: ps => by simp only [pl.pls, List.length_cons, pls_len ps]
theorem pls_take : ∀ (ps : List PyData) (i : Nat) (hi : i < ps.length), pl.pls (ps.take (i + 1)) = pl.pls (ps.take i) ++ [pl ps[i]]
  | [], i, hi => absurd hi (Nat.not_lt_zero _)
  | p :: ps, 0, hi => by simp [pl.pls]
  | p :: ps, i + 1, hi => by
    simp only [List.take_succ_cons, pl.pls, List.cons_append, List.getElem_cons_succ]
    rw [pls_take ps i (by simpa using hi)]
theorem pls_app : ∀ ps qs : List PyData, pl.pls (ps ++ qs) = pl.pls ps ++ pl.pls qs
  | [], _ => rfl
  | _ :: ps, qs => by simp only [pl.pls, List.cons_append, pls_app ps qs]
variable {α β : Type} {h : Hd} {σ : Ev} {Q : D → Hd → Prop} {QB : Bool → Hd → Prop} {QS : Fl → Hd → Prop}
theorem W_isi {ns : List String} {x : D} {a : String} (e : tyD h x = some a) : W (isiM ns x) h Q = Q (.bl (ns.any fun b => isaT a b)) h := W_some (by simp only [isiM, e])
def srcTp (xs : List D) : Src := ⟨fun _ i => some xs[i]?, xs.length⟩
theorem W_srcTp {xs : List D} {QR : Src → Hd → Prop} : W (srcSeq (.tup xs)) h QR = QR (srcTp xs) h := W_some rfl
theorem w_compT {r : Nat} {xs : List D} {t : D → Ev → M Ev} {c : Ev → M Bool} {f : Ev → M D} (I : Nat → Hd → Prop) (h0 : I 0 h)
    (hs : ∀ i h (hi : i < xs.length), I i h → TurnC t c f r xs[i] σ h (I (i + 1))) (hd : ∀ h, I xs.length h → Q (.ref r) h) : W (compL (srcTp xs) t c f r σ ((srcTp xs).fuel + 1) 0) h Q :=
  w_compL (n := xs.length) I (fun i h hi hI => by
    by_cases c : i < xs.length
    · exact .inr ⟨c, xs[i], by simp only [srcTp, List.getElem?_eq_getElem c], hs i h c hI⟩
    · exact .inl ⟨by omega, by simp only [srcTp, List.getElem?_eq_none (Nat.le_of_not_lt c)]⟩) hd _ 0 h (Nat.zero_le _) (by show xs.length < 0 + (xs.length + 1); omega) h0
theorem w_forT {xs : List D} {t : D → Ev → M Ev} {g : Ev → M Fl} (I : Nat → Ev → Hd → Prop) (h0 : I 0 σ h)
    (hs : ∀ i σ h (hi : i < xs.length), I i σ h → Turn t g xs[i] σ h (I (i + 1)) QS) (hd : ∀ σ h, I xs.length σ h → QS (.nx σ) h) : W (forL (srcTp xs) t g ((srcTp xs).fuel + 1) 0 σ) h QS :=
  w_forL (n := xs.length) I (fun i σ h hi hI => by
    by_cases c : i < xs.length
    · exact .inr ⟨c, xs[i], by simp only [srcTp, List.getElem?_eq_getElem c], hs i σ h c hI⟩
    · exact .inl ⟨by omega, by simp only [srcTp, List.getElem?_eq_none (Nat.le_of_not_lt c)]⟩) hd _ 0 σ h (Nat.zero_le _) (by show xs.length < 0 + (xs.length + 1); omega) h0
/-- a comprehension whose values are as told, one by one; nothing else is touched -/
theorem w_compN {lo : Int} {n : Nat} {t : D → Ev → M Ev} {f : Ev → M D} {r : Nat} {h0 : Hd} (P : Nat → Hd → D → Prop) (hr : r = h0.length) (hn : n ≤ 100000) (h1r : 1 < h0.length)
    (mono : ∀ i h h' x, P i h x → Fr [r] h h' → P i h' x)
    (hs : ∀ i h, i < n → Fr [] h0 h → W (t (.int (lo + (i : Int))) σ) h fun σ1 h1 => W (f σ1) h1 fun y h2 => Fr [] h h2 ∧ P i h2 y)
    (hd : ∀ h xs, Fr [] h0 h → h[r]? = some (.lst xs) → xs.length = n → (∀ i (hi : i < xs.length), P i h xs[i]) → Q (.ref r) h) :
    W (compL (srcRange lo n) t xYes f r σ ((srcRange lo n).fuel + 1) 0) (h0 ++ [.lst []]) Q := by
  refine w_compR (fun i h => ∃ xs, Fr [] h0 h ∧ h[r]? = some (.lst xs) ∧ xs.length = i ∧ ∀ j (hj : j < xs.length), P j h xs[j]) ⟨[], .push, by subst hr; exact get_push, rfl, fun j hj => absurd hj (Nat.not_lt_zero _)⟩ ?_ ?_
  · rintro i h hi ⟨xs, F, e, rfl, hp⟩
    refine W.mono (hs _ h hi F) fun σ1 h1 w1 => ?_
    rw [W_yes]
    simp only [if_true]
    refine W.mono w1 fun y h2 ⟨F2, p⟩ => ?_
    have e2 := F2.keep e (by simp) (by omega)
    have FF : Fr [r] h2 (h2.set r (.lst (xs ++ [y]))) := .write (by simp) (by omega)
    have F4 : Fr [] h0 (h2.set r (.lst (xs ++ [y]))) := Fr.fresh (n := r) ((((F.trans F2).mono fun _ _ z => by cases z).trans FF)) (by omega)
    refine ⟨xs, e2, by show xs.length < 1000000; omega, xs ++ [y], F4, get_set e2, by simp, fun j hj => ?_⟩
    rcases Nat.lt_or_ge j xs.length with c | c
    · rw [List.getElem_append_left c]
      exact mono _ _ _ _ (mono _ _ _ _ (hp j c) (F2.mono fun _ _ z => by cases z)) FF
    · have : j = xs.length := by simp at hj; omega
      subst this
      simp only [List.getElem_concat_length]
      exact mono _ _ _ _ p FF
  · rintro h ⟨xs, F, e, hl, hp⟩
    exact hd h xs F e hl hp
theorem lift_list {γ : Type} {f : γ → D} {R : γ → Prop} : ∀ {xs : List D}, (∀ i (hi : i < xs.length), ∃ c, R c ∧ xs[i] = f c) → ∃ cs : List γ, xs = cs.map f ∧ ∀ c ∈ cs, R c
  | [], _ => ⟨[], rfl, fun c z => by cases z⟩
  | x :: xs, k => by
    obtain ⟨c, rc, e⟩ := k 0 (by simp)
    obtain ⟨cs, e2, h2⟩ := lift_list (xs := xs) fun i hi => k (i + 1) (Nat.succ_lt_succ hi)
    refine ⟨c :: cs, by rw [List.map_cons, ← e2, ← e]; rfl, fun d hd => ?_⟩
    rcases List.mem_cons.mp hd with rfl | hd
    · exact rc
    · exact h2 d hd
theorem W_lenM {γ : Type} {n : Nat} {xs : List γ} {f : γ → D} (e : h[n]? = some (.lst (xs.map f))) : W (lenM [.ref n]) h Q = Q (.int (xs.length : Nat)) h := by rw [W_lenL e, List.length_map]
theorem W_srcM {γ : Type} {n : Nat} {xs : List γ} {f : γ → D} {QR : Src → Hd → Prop} (e : h[n]? = some (.lst (xs.map f))) : W (srcSeq (.ref n)) h QR = QR (srcLst n xs.length) h := by rw [W_srcL e, List.length_map]
theorem W_andB {b : Bool} {m m' : M α} {Q : α → Hd → Prop} (e : b = true) (w : W m h Q) : if b = true then W m h Q else W m' h Q := by rw [if_pos e]; exact w
end Dt

set_option Elab.async false
set_option linter.all false
set_option autoImplicit false
set_option maxRecDepth 100000
/-! DtY: steps through cells, for simp. -/
namespace Dt
open PySem
variable {α β : Type} {h : Hd} {σ : Ev}
variable {Q : D → Hd → Prop} {QB : Bool → Hd → Prop} {QS : Fl → Hd → Prop} {QA : List D → Hd → Prop} {QE : Ev → Hd → Prop} {QU : Unit → Hd → Prop} {QR : Src → Hd → Prop} {QO : Option Int → Hd → Prop} {QT : String → Hd → Prop}
inductive TagC (K : Cell → Prop) : Type where
  | mk
def WCell (o : Option Cell) (K : Cell → Prop) (_ : TagC K := TagC.mk) : Prop := ∃ c, o = some c ∧ K c
theorem WCell_some {c : Cell} {K : Cell → Prop} : WCell (some c) K = K c := by simp [WCell]
def WO (o : Option D) (h : Hd) (Q : D → Hd → Prop) (_ : TagV h Q := TagV.mk) : Prop := ∃ d, o = some d ∧ Q d h
theorem WO_some {d : D} : WO (some d) h Q = Q d h := by simp [WO]
theorem WO_none : WO none h Q = False := by simp [WO]
/-- by the cell -/
theorem cellW {m : M α} {o : Option Cell} {P : α → Hd → Prop} {K : Cell → Prop} (hn : o = none → m h = none) (hs : ∀ c, o = some c → W m h P = K c) : W m h P = WCell o K := by
  apply propext
  cases e : o with
  | none =>
    constructor
    · rintro ⟨a, h', e1, _⟩; rw [hn e] at e1; cases e1
    · rintro ⟨c, e1, _⟩; cases e1
  | some c =>
    rw [WCell_some, hs c e]
theorem V_match {o : Option D} {m : M D} (hn : o = none → m h = none) (hs : ∀ d, o = some d → m h = some (d, h)) : W m h Q = WO o h Q := by
  cases e : o with
  | none => rw [WO_none]; exact V_no (hn e)
  | some d => rw [WO_some]; exact V_some (hs d e)
theorem W_fldC {cs : List String} {nm : String} {n : Nat} : W (fldM cs nm (.ref n)) h Q = WCell h[n]? fun c => match c with
    | .ins c fs => c ∈ cs ∧ WO (lookF nm fs) h Q
    | _ => False := by
  refine cellW (fun e => by simp only [fldM, e]) fun c e => ?_
  cases c with
  | ins c fs =>
    by_cases hc : c ∈ cs
    · simp only [hc, true_and]
      exact V_match (fun e2 => by simp only [fldM, e, hc, if_true, e2]) (fun d e2 => by simp only [fldM, e, hc, if_true, e2])
    · simp only [hc, false_and]
      exact V_no (by simp only [fldM, e, hc, if_false])
  | lst _ => exact V_no (by simp only [fldM, e])
  | ro _ => exact V_no (by simp only [fldM, e])
  | dct _ => exact V_no (by simp only [fldM, e])
  | dtu _ => exact V_no (by simp only [fldM, e])
theorem W_setFC {cs : List String} {nm : String} {n : Nat} {d : D} : W (setFM cs nm (.ref n) d) h QU = WCell h[n]? fun c => match c with
    | .ins c fs => (c ∈ cs ∧ fs.length < 500) ∧ QU () (h.set n (.ins c (putFD nm d fs)))
    | _ => False := by
  refine cellW (fun e => by simp only [setFM, e]) fun c e => ?_
  cases c with
  | ins c fs => exact V_ite (by simp only [setFM, e])
  | lst _ => exact V_no (by simp only [setFM, e])
  | ro _ => exact V_no (by simp only [setFM, e])
  | dct _ => exact V_no (by simp only [setFM, e])
  | dtu _ => exact V_no (by simp only [setFM, e])
theorem W_clsC {n : Nat} : W (clsM (.ref n)) h QT = WCell h[n]? fun c => match c with
    | .ins c fs => QT c h
    | _ => False := by
  refine cellW (fun e => by simp only [clsM, e]) fun c e => ?_
  cases c with
  | ins c fs => exact V_some (by simp only [clsM, e])
  | lst _ => exact V_no (by simp only [clsM, e])
  | ro _ => exact V_no (by simp only [clsM, e])
  | dct _ => exact V_no (by simp only [clsM, e])
  | dtu _ => exact V_no (by simp only [clsM, e])
theorem W_methC {c m : String} {n : Nat} : W (methM c m (.ref n)) h QU = WCell h[n]? fun x => match x with
    | .ins c' fs => (c' = c ∧ (lookF m fs).isNone = true) ∧ QU () h
    | _ => False := by
  refine cellW (fun e => by simp only [methM, e]) fun x e => ?_
  cases x with
  | ins c fs => exact V_ite (by simp only [methM, e])
  | lst _ => exact V_no (by simp only [methM, e])
  | ro _ => exact V_no (by simp only [methM, e])
  | dct _ => exact V_no (by simp only [methM, e])
  | dtu _ => exact V_no (by simp only [methM, e])
theorem W_lenC {n : Nat} : W (lenM [.ref n]) h Q = WCell h[n]? fun c => match c with
    | .lst xs => Q (.int (xs.length : Nat)) h
    | .ro xs => Q (.int (xs.length : Nat)) h
    | .dct kvs => Q (.int (kvs.length : Nat)) h
    | _ => False := by
  refine cellW (fun e => by simp only [lenM, itemsOf, e]) fun x e => ?_
  cases x with
  | ins c fs => exact V_no (by simp only [lenM, itemsOf, e])
  | lst _ => exact V_some (by simp only [lenM, itemsOf, e])
  | ro _ => exact V_some (by simp only [lenM, itemsOf, e])
  | dct _ => exact V_some (by simp only [lenM, itemsOf, e])
  | dtu _ => exact V_no (by simp only [lenM, itemsOf, e])
theorem W_ixC {n : Nat} {k : Int} : W (ixM (.ref n) (.int k)) h Q = WCell h[n]? fun c => match c with
    | .lst xs => WO (L2.atI xs k) h Q
    | .ro xs => WO (L2.atI xs k) h Q
    | .dct kvs => WO (look (.inl k) kvs) h Q
    | _ => False := by
  refine cellW (fun e => by simp only [ixM, itemsOf, e]) fun x e => ?_
  cases x with
  | ins c fs => exact V_no (by simp only [ixM, itemsOf, e])
  | lst _ => exact V_match (fun e2 => by simp only [ixM, itemsOf, e, e2]) (fun d e2 => by simp only [ixM, itemsOf, e, e2])
  | ro _ => exact V_match (fun e2 => by simp only [ixM, itemsOf, e, e2]) (fun d e2 => by simp only [ixM, itemsOf, e, e2])
  | dct _ => exact V_match (fun e2 => by simp only [ixM, itemsOf, e, keyOf, e2]) (fun d e2 => by simp only [ixM, itemsOf, e, keyOf, e2])
  | dtu _ => exact V_no (by simp only [ixM, itemsOf, e])
theorem W_ixTO {xs : List D} {k : Int} : W (ixM (.tup xs) (.int k)) h Q = WO (L2.atI xs k) h Q := V_match (fun e2 => by simp only [ixM, itemsOf, e2]) (fun d e2 => by simp only [ixM, itemsOf, e2])
theorem W_isLstC {n : Nat} : W (isLst (.ref n)) h QU = WCell h[n]? fun c => match c with
    | .lst xs => QU () h
    | _ => False := by
  refine cellW (fun e => by simp only [isLst, e]) fun x e => ?_
  cases x with
  | lst _ => exact V_some (by simp only [isLst, e])
  | ins c fs => exact V_no (by simp only [isLst, e])
  | ro _ => exact V_no (by simp only [isLst, e])
  | dct _ => exact V_no (by simp only [isLst, e])
  | dtu _ => exact V_no (by simp only [isLst, e])
theorem W_appC {n : Nat} {y : D} : W (appM (.ref n) y) h Q = WCell h[n]? fun c => match c with
    | .lst xs => xs.length < LIM ∧ Q .non (h.set n (.lst (xs ++ [y])))
    | _ => False := by
  refine cellW (fun e => by simp only [appM, e]) fun x e => ?_
  cases x with
  | lst _ => exact V_ite (by simp only [appM, e])
  | ins c fs => exact V_no (by simp only [appM, e])
  | ro _ => exact V_no (by simp only [appM, e])
  | dct _ => exact V_no (by simp only [appM, e])
  | dtu _ => exact V_no (by simp only [appM, e])
theorem W_listC {n : Nat} : W (listM [.ref n]) h Q = WCell h[n]? fun c => match c with
    | .lst xs => Q (.ref h.length) (h ++ [.lst xs])
    | .ro xs => Q (.ref h.length) (h ++ [.lst xs])
    | _ => False := by
  refine cellW (fun e => by simp only [listM, itemsOf, e]) fun x e => ?_
  cases x with
  | lst _ => exact V_some (by simp only [listM, itemsOf, e])
  | ins c fs => exact V_no (by simp only [listM, itemsOf, e])
  | ro _ => exact V_some (by simp only [listM, itemsOf, e])
  | dct _ => exact V_no (by simp only [listM, itemsOf, e])
  | dtu _ => exact V_no (by simp only [listM, itemsOf, e])
theorem W_tupC {n : Nat} : W (tupM [.ref n]) h Q = WCell h[n]? fun c => match c with
    | .lst xs => Q (.tup xs) h
    | .ro xs => Q (.tup xs) h
    | _ => False := by
  refine cellW (fun e => by simp only [tupM, itemsOf, e]) fun x e => ?_
  cases x with
  | lst _ => exact V_some (by simp only [tupM, itemsOf, e])
  | ins c fs => exact V_no (by simp only [tupM, itemsOf, e])
  | ro _ => exact V_some (by simp only [tupM, itemsOf, e])
  | dct _ => exact V_no (by simp only [tupM, itemsOf, e])
  | dtu _ => exact V_no (by simp only [tupM, itemsOf, e])
theorem W_truC {n : Nat} : W (truM (.ref n)) h QB = WCell h[n]? fun c => match c with
    | .lst xs => QB (!xs.isEmpty) h
    | .ro xs => QB (!xs.isEmpty) h
    | .dct xs => QB (!xs.isEmpty) h
    | _ => False := by
  refine cellW (fun e => by simp only [truM, e]) fun x e => ?_
  cases x with
  | lst _ => exact V_some (by simp only [truM, e])
  | ins c fs => exact V_no (by simp only [truM, e])
  | ro _ => exact V_some (by simp only [truM, e])
  | dct _ => exact V_some (by simp only [truM, e])
  | dtu _ => exact V_no (by simp only [truM, e])
theorem W_slC {n : Nat} {lo hi : Option Int} : W (slM (.ref n) lo hi) h Q = WCell h[n]? fun c => match c with
    | .lst xs => Q (.ref h.length) (h ++ [.lst (cutD xs lo hi)])
    | .ro xs => Q (.ref h.length) (h ++ [.lst (cutD xs lo hi)])
    | _ => False := by
  refine cellW (fun e => by simp only [slM, Dt.listOf, e]) fun x e => ?_
  cases x with
  | lst _ => exact V_some (by simp only [slM, Dt.listOf, e])
  | ins c fs => exact V_no (by simp only [slM, Dt.listOf, e])
  | ro _ => exact V_some (by simp only [slM, Dt.listOf, e])
  | dct _ => exact V_no (by simp only [slM, Dt.listOf, e])
  | dtu _ => exact V_no (by simp only [slM, Dt.listOf, e])
theorem W_slTT {xs : List D} {lo hi : Option Int} : W (slM (.tup xs) lo hi) h Q = Q (.tup (cutD xs lo hi)) h := V_some rfl
theorem W_addTT {xs ys : List D} : W (addM (.tup xs) (.tup ys)) h Q = (xs.length + ys.length ≤ LIM ∧ Q (.tup (xs ++ ys)) h) := V_ite rfl
theorem W_addC {n m : Nat} : W (addM (.ref n) (.ref m)) h Q = WCell h[n]? fun c => match c with
    | .lst xs => WCell h[m]? fun c => match c with
      | .lst ys => xs.length + ys.length ≤ LIM ∧ Q (.ref h.length) (h ++ [.lst (xs ++ ys)])
      | _ => False
    | _ => False := by
  refine cellW (fun e => by simp only [addM, e]) fun x e => ?_
  cases x with
  | lst xs =>
    refine cellW (fun e2 => by simp only [addM, e, e2]) fun y e2 => ?_
    cases y with
    | lst _ => exact V_ite (by simp only [addM, e, e2])
    | ins c fs => exact V_no (by simp only [addM, e, e2])
    | ro _ => exact V_no (by simp only [addM, e, e2])
    | dct _ => exact V_no (by simp only [addM, e, e2])
    | dtu _ => exact V_no (by simp only [addM, e, e2])
  | ins c fs => exact V_no (by simp only [addM, e])
  | ro _ => exact V_no (by simp only [addM, e])
  | dct _ => exact V_no (by simp only [addM, e])
  | dtu _ => exact V_no (by simp only [addM, e])
theorem W_setIC {n : Nat} {k : Int} {d : D} : W (setI (.ref n) (.int k) d) h QU = WCell h[n]? fun c => match c with
    | .lst xs => ∃ j, L2.ixN xs.length k = some j ∧ QU () (h.set n (.lst (xs.set j d)))
    | .dct kvs => kvs.length < LIM ∧ QU () (h.set n (.dct (putD kvs (.inl k) d)))
    | _ => False := by
  refine cellW (fun e => by simp only [setI, e]) fun x e => ?_
  cases x with
  | lst xs =>
    dsimp only
    cases ej : L2.ixN xs.length k with
    | none => exact (V_no (by simp only [setI, e, ej])).trans (by simp)
    | some j => exact (V_some (a := ()) (h' := h.set n (.lst (xs.set j d))) (by simp only [setI, e, ej])).trans (by simp)
  | dct kvs => exact V_ite (by simp only [setI, e, keyOf])
  | ins c fs => exact V_no (by simp only [setI, e])
  | ro _ => exact V_no (by simp only [setI, e])
  | dtu _ => exact V_no (by simp only [setI, e])
theorem W_getIC {n : Nat} {k : Int} : W (getI (.ref n) (.int k)) h Q = WCell h[n]? fun c => match c with
    | .lst xs => 0 ≤ k ∧ WO xs[k.toNat]? h Q
    | .dct kvs => WO (look (.inl k) kvs) h Q
    | _ => False := by
  refine cellW (fun e => by simp only [getI, e]) fun x e => ?_
  cases x with
  | lst xs =>
    by_cases c : 0 ≤ k
    · simp only [c, true_and]
      exact V_match (fun e2 => by simp only [getI, e, c, if_true, e2]) (fun d e2 => by simp only [getI, e, c, if_true, e2])
    · simp only [c, false_and]
      exact V_no (by simp only [getI, e, c, if_false])
  | dct kvs => exact V_match (fun e2 => by simp only [getI, e, keyOf, e2]) (fun d e2 => by simp only [getI, e, keyOf, e2])
  | ins c fs => exact V_no (by simp only [getI, e])
  | ro _ => exact V_no (by simp only [getI, e])
  | dtu _ => exact V_no (by simp only [getI, e])
theorem W_delC {n : Nat} {k : Int} : W (delM (.ref n) (.int k)) h QU = WCell h[n]? fun c => match c with
    | .lst xs => (0 ≤ k ∧ k < xs.length ∧ k < 1000000000) ∧ QU () (h.set n (.lst (xs.eraseIdx k.toNat)))
    | _ => False := by
  refine cellW (fun e => by simp only [delM, e]) fun x e => ?_
  cases x with
  | lst xs => exact V_ite (by simp only [delM, e])
  | ins c fs => exact V_no (by simp only [delM, e])
  | ro _ => exact V_no (by simp only [delM, e])
  | dct _ => exact V_no (by simp only [delM, e])
  | dtu _ => exact V_no (by simp only [delM, e])
theorem W_isDctC {n : Nat} : W (isDct (.ref n)) h QU = WCell h[n]? fun c => match c with
    | .dct kvs => QU () h
    | _ => False := by
  refine cellW (fun e => by simp only [isDct, e]) fun x e => ?_
  cases x with
  | dct _ => exact V_some (by simp only [isDct, e])
  | ins c fs => exact V_no (by simp only [isDct, e])
  | ro _ => exact V_no (by simp only [isDct, e])
  | lst _ => exact V_no (by simp only [isDct, e])
  | dtu _ => exact V_no (by simp only [isDct, e])
theorem W_dgetC {n : Nat} {k : Int} : W (dgetM (.ref n) (.int k)) h Q = WCell h[n]? fun c => match c with
    | .dct kvs => Q ((look (.inl k) kvs).getD .non) h
    | _ => False := by
  refine cellW (fun e => by simp only [dgetM, e]) fun x e => ?_
  cases x with
  | dct _ => exact V_some (by simp only [dgetM, e, keyOf])
  | ins c fs => exact V_no (by simp only [dgetM, e])
  | ro _ => exact V_no (by simp only [dgetM, e])
  | lst _ => exact V_no (by simp only [dgetM, e])
  | dtu _ => exact V_no (by simp only [dgetM, e])
theorem W_dictC {n : Nat} : W (dictM [.ref n]) h Q = WCell h[n]? fun c => match c with
    | .dct kvs => Q (.ref h.length) (h ++ [.dct kvs])
    | _ => False := by
  refine cellW (fun e => by simp only [dictM, e]) fun x e => ?_
  cases x with
  | dct _ => exact V_some (by simp only [dictM, e])
  | ins c fs => exact V_no (by simp only [dictM, e])
  | ro _ => exact V_no (by simp only [dictM, e])
  | lst _ => exact V_no (by simp only [dictM, e])
  | dtu _ => exact V_no (by simp only [dictM, e])
theorem W_dict0 : W (xDict0 σ) h Q = Q (.ref h.length) (h ++ [.dct []]) := V_some rfl
theorem W_inIC {n : Nat} {k : Int} : W (inM (.int k) (.ref n)) h Q = WCell h[n]? fun c => match c with
    | .dct kvs => Q (.bl (look (.inl k) kvs).isSome) h
    | .lst xs => W (inM (.int k) (.ref n)) h Q
    | .ro xs => W (inM (.int k) (.ref n)) h Q
    | _ => False := by
  refine cellW (fun e => by simp only [inM, inB, itemsOf, e]) fun x e => ?_
  cases x with
  | dct _ => exact V_some (by simp only [inM, inB, itemsOf, e, keyOf])
  | lst _ => rfl
  | ro _ => rfl
  | ins c fs => exact V_no (by simp only [inM, inB, itemsOf, e])
  | dtu _ => exact V_no (by simp only [inM, inB, itemsOf, e])
/-- a text in a list of flat values -/
theorem W_inS {n : Nat} {s : String} {xs : List D} (e : h[n]? = some (.lst xs)) (hf : xs.all flatD = true) : W (inM (.str s) (.ref n)) h Q = Q (.bl (xs.any fun z => eqF z (.str s))) h :=
  V_some (by simp only [inM, inB, itemsOf, e, flatD, hf, and_self, if_true])
theorem W_inSC {n : Nat} {s : String} : W (inM (.str s) (.ref n)) h Q = WCell h[n]? fun c => match c with
    | .lst xs => if xs.all flatD = true then Q (.bl (xs.any fun z => eqF z (.str s))) h else W0 (inM (.str s) (.ref n)) h Q
    | _ => W0 (inM (.str s) (.ref n)) h Q := by
  refine cellW (fun e => by simp only [inM, inB, itemsOf, e]) fun x e => ?_
  cases x with
  | lst xs =>
    dsimp only
    split
    · rename_i c; exact W_inS e c
    · rfl
  | dct _ => rfl
  | ro _ => rfl
  | ins c fs => rfl
  | dtu _ => rfl
theorem W_eqS {a b : String} : W (eqM (.str a) (.str b)) h Q = Q (.bl (a == b)) h := by
  rw [W_eq (p := .str (Str.ofString a)) (q := .str (Str.ofString b)) rfl rfl (by unfold SeqAt.shaped; rw [PyData.canLay0, strOk_of]; rfl) (by unfold SeqAt.shaped; rw [PyData.canLay0, strOk_of]; rfl), PyData.eqv, ofString_beq]
theorem W_neS {a b : String} : W (neM (.str a) (.str b)) h Q = Q (.bl (!(a == b))) h := by
  rw [W_ne (p := .str (Str.ofString a)) (q := .str (Str.ofString b)) rfl rfl (by unfold SeqAt.shaped; rw [PyData.canLay0, strOk_of]; rfl) (by unfold SeqAt.shaped; rw [PyData.canLay0, strOk_of]; rfl), PyData.eqv, ofString_beq]
theorem W_eqB {a b : Bool} : W (eqM (.bl a) (.bl b)) h Q = Q (.bl (a == b)) h := by
  rw [W_eq (p := .bool a) (q := .bool b) rfl rfl rfl rfl]; rfl
theorem W_neB {a b : Bool} : W (neM (.bl a) (.bl b)) h Q = Q (.bl (!(a == b))) h := by
  rw [W_ne (p := .bool a) (q := .bool b) rfl rfl rfl rfl]; rfl
theorem W_meth {c m : String} {F : List D → M D} {dds : List D} {fo : Ev → M D} {fs : Ev → M (List D)} : W (xMeth c m F dds fo fs σ) h Q = W (fo σ) h fun x h1 => W (methM c m x) h1 fun _ h2 => W (fs σ) h2 fun xs h3 => W (F (x :: (xs ++ dds))) h3 Q := by
  unfold xMeth; simp only [W_eq0, V_bnd]
theorem W_make {c : String} {F : List D → M D} {dds : List D} {fs : Ev → M (List D)} : W (xMake c F dds fs σ) h Q = W (fs σ) h fun xs h1 => W (F (.ref h1.length :: (xs ++ dds))) (h1 ++ [.ins c []]) fun d h2 => d = .non ∧ Q (.ref h1.length) h2 := by
  unfold xMake; simp only [W_eq0, V_bnd]; congr; funext xs h1
  apply propext
  constructor
  · rintro ⟨a, h', e, q⟩
    unfold makeM at e
    split at e
    · rename_i h2 e1; cases e; exact ⟨_, _, e1, rfl, q⟩
    · cases e
  · rintro ⟨a, h', e, rfl, q⟩
    exact ⟨_, _, by simp only [makeM, e], q⟩
theorem W_setF {cs : List String} {nm : String} {fo fv : Ev → M D} : W (xSetF cs nm fo fv σ) h QS = W (fv σ) h fun d h1 => W (fo σ) h1 fun x h2 => W (setFM cs nm x d) h2 fun _ h3 => QS (.nx σ) h3 := by
  unfold xSetF; simp only [W_eq0, V_bnd, V_ret]
theorem W_augF {cs : List String} {nm : String} {op : D → D → M D} {fo fv : Ev → M D} : W (xAugF cs nm op fo fv σ) h QS = W (fo σ) h fun x h1 => W (clsM x) h1 fun c h2 => W (fldM cs nm x) h2 fun v h3 => W (fv σ) h3 fun y h4 => W (op v y) h4 fun z h5 => W (setFM [c] nm x z) h5 fun _ h6 => QS (.nx σ) h6 := by
  unfold xAugF; simp only [W_eq0, V_bnd, V_ret]
theorem W_callK {n m : Nat} {F : List D → M D} {fs fk : Ev → M (List D)} : W (xCallK n m F fs fk σ) h Q = W (fs σ) h fun xs h1 => W (fk σ) h1 fun ys h2 => (xs.length = n ∧ ys.length = m) ∧ W (F (xs ++ ys)) h2 Q := by
  unfold xCallK; simp only [W_eq0, V_bnd]; congr; funext xs h1; congr; funext ys h2
  by_cases c : xs.length = n ∧ ys.length = m
  · simp only [c, and_self, true_and]
    unfold W0
    simp only [c, and_self, if_true]
  · simp only [c, false_and]
    exact V_no (by simp only [c, if_false])
theorem W_chain {op op' : D → D → M D} {f g k : Ev → M D} : W (xChain op op' f g k σ) h Q = W (f σ) h fun x h1 => W (g σ) h1 fun y h2 => W (op x y) h2 fun z h3 => W (isB z) h3 fun b h4 => if b = true then W (k σ) h4 fun w h5 => W (op' y w) h5 Q else Q (.bl false) h4 := by
  unfold xChain; simp only [W_eq0, V_bnd, V_if, V_ret]
theorem W_chainT {op op' : D → D → M D} {f g k : Ev → M D} : W (xChainT op op' f g k σ) h QB = W (xChain op op' f g k σ) h fun z h1 => W (isB z) h1 QB := by
  unfold xChainT; simp only [W_eq0, V_bnd]
theorem W_del {fo fi : Ev → M D} : W (xDel fo fi σ) h QS = W (fo σ) h fun x h1 => W (fi σ) h1 fun i h2 => W (delM x i) h2 fun _ h3 => QS (.nx σ) h3 := by
  unfold xDel; simp only [W_eq0, V_bnd, V_ret]
theorem W_gSub {fo fi : Ev → M D} {d : D} : W (gSubD fo fi d σ) h QE = W (fo σ) h fun x h1 => W (fi σ) h1 fun i h2 => W (setI x i d) h2 fun _ h3 => QE σ h3 := by
  unfold gSubD; simp only [W_eq0, V_bnd, V_ret]
theorem W_augI {op : D → D → M D} {fo fi fe : Ev → M D} : W (xAugI op fo fi fe σ) h QS = W (fo σ) h fun x h1 => W (fi σ) h1 fun i h2 => W (getI x i) h2 fun v h3 => W (fe σ) h3 fun y h4 => W (op v y) h4 fun z h5 => W (setI x i z) h5 fun _ h6 => QS (.nx σ) h6 := by
  unfold xAugI; simp only [W_eq0, V_bnd, V_ret]
theorem W_get1 {fo fi : Ev → M D} : W (xGet1 fo fi σ) h Q = W (fo σ) h fun x h1 => W (isDct x) h1 fun _ h2 => W (fi σ) h2 fun i h3 => W (dgetM x i) h3 Q := by
  unfold xGet1; simp only [W_eq0, V_bnd]
theorem W_srcC {n : Nat} : W (srcSeq (.ref n)) h QR = WCell h[n]? fun c => match c with
    | .lst xs => QR (srcLst n xs.length) h
    | .ro xs => QR (srcLst n xs.length) h
    | _ => False := by
  refine cellW (fun e => by simp only [srcSeq, Dt.listOf, e]) fun x e => ?_
  cases x with
  | lst _ => exact V_some (by simp only [srcSeq, Dt.listOf, e]; rfl)
  | ro _ => exact V_some (by simp only [srcSeq, Dt.listOf, e]; rfl)
  | ins c fs => exact V_no (by simp only [srcSeq, Dt.listOf, e])
  | dct _ => exact V_no (by simp only [srcSeq, Dt.listOf, e])
  | dtu _ => exact V_no (by simp only [srcSeq, Dt.listOf, e])
theorem at0 {a : D} {xs : List D} : L2.atI (a :: xs) 0 = some a := L2.atI_nat (j := 0) rfl
theorem at1 {a b : D} {xs : List D} : L2.atI (a :: b :: xs) 1 = some b := by
  exact L2.atI_nat (j := 1) rfl
theorem at2 {a b c : D} {xs : List D} : L2.atI (a :: b :: c :: xs) 2 = some c := L2.atI_nat (j := 2) rfl
theorem at3 {a b c d : D} {xs : List D} : L2.atI (a :: b :: c :: d :: xs) 3 = some d := L2.atI_nat (j := 3) rfl
theorem at4 {a b c d e : D} {xs : List D} : L2.atI (a :: b :: c :: d :: e :: xs) 4 = some e := L2.atI_nat (j := 4) rfl
theorem at5 {a b c d e f : D} {xs : List D} : L2.atI (a :: b :: c :: d :: e :: f :: xs) 5 = some f := L2.atI_nat (j := 5) rfl
theorem at_nat {xs : List D} {p : Nat} : L2.atI xs (p : Int) = xs[p]? := by
  cases e : xs[p]? with
  | some d => exact L2.atI_nat e
  | none =>
    have hl : xs.length ≤ p := List.getElem?_eq_none_iff.mp e
    unfold L2.atI L2.ixN
    rw [if_pos (by omega), if_neg (by omega)]; rfl
theorem W_inD {n : Nat} {k : Int} {kvs : List (L2.Key × D)} (e : h[n]? = some (.dct kvs)) : W (inM (.int k) (.ref n)) h Q = Q (.bl (look (.inl k) kvs).isSome) h := by
  rw [W_inIC, e, WCell_some]
theorem ix0 {n : Nat} : L2.ixN (n + 1) 0 = some 0 := by
  unfold L2.ixN; rw [if_pos (by decide), if_pos (by omega)]; rfl
theorem ix1 {n : Nat} : L2.ixN (n + 1 + 1) 1 = some 1 := by
  unfold L2.ixN; rw [if_pos (by decide), if_pos (by omega)]; rfl
theorem lt_push {l : Hd} {c : Cell} {a : Nat} (e : a < l.length) : a < (l ++ [c]).length := by rw [List.length_append]; exact Nat.lt_add_right _ e
theorem ne_push {l : Hd} {a : Nat} (e : a < l.length) : (l.length = a) = False := by simp; omega
theorem ne_push' {l : Hd} {a : Nat} (e : a < l.length) : (a = l.length) = False := by simp; omega
theorem len_lt {l : Hd} {c : Cell} : l.length < (l ++ [c]).length := by simp
theorem memS {a : String} : (a ∈ ([a] : List String)) = True := by simp
end Dt

set_option Elab.async false
set_option linter.all false
set_option autoImplicit false
set_option maxRecDepth 100000
set_option maxHeartbeats 4000000
namespace Lk00
open PySem PySem.Spec PyProof.Rows L2 Dt
def top (i : Nat) : Stmt := PySem.Challenge.pw_turnpike_k00_whole_ends_exchanged.main.body.getD i (.Pass ⟨0, 0, 0, 0⟩)
/-! ### what the defs run -/
def cs_from_first : List String := ["Draft"]
def cs_own : List String := ["Draft"]
def cs_others : List String := ["Draft"]
def cs_spare : List String := ["Draft"]
def cs_locks : List String := ["Draft"]
def cs_closed : List String := ["Draft"]
def L__law_deck_0 : Ev → M Fl := xSeq (xAsg (xOp modM (xB intM (xCons (xOp addM (xOp addM (xOp mulM (xV 4) (xC (.int 69621))) (xV 8)) (xC (.int 1))) (xNil))) (xC (.int 2147483629))) (gSet 4)) (xSeq (xDrop (xLM appM (xV 3) (xOp modM (xB intM (xCons (xOp ixM (xLst (xCons (xOp fdivM (xV 4) (xC (.int 7))) (xCons (xV 7) (xNil)))) (xB intM (xCons (xOp gtM (xV 7) (xC (.int 0))) (xNil)))) (xNil))) (xC (.int 1000003))))) (xAsg (xOp fdivM (xV 7) (xC (.int 1000003))) (gSet 7)))
def L__law_deck_1 : Ev → M Fl := xSeq (xAsg (xIf (xCmpT ltM (xV 5) (xB lenM (xCons (xV 0) (xNil)))) (xB intM (xCons (xOp ixM (xV 0) (xV 5)) (xNil))) (xC (.int 0))) (gSet 6)) (xSeq (xAsg (xOp mulM (xB absM (xCons (xV 6) (xNil))) (xB intM (xCons (xOp geM (xB absM (xCons (xV 6) (xNil))) (xOp powM (xC (.int 10)) (xC (.int 18)))) (xNil)))) (gSet 7)) (xSeq (xAsg (xOp modM (xB intM (xCons (xOp addM (xOp addM (xOp addM (xOp mulM (xV 4) (xC (.int 48271))) (xOp mulM (xC (.int 3)) (xOp modM (xB intM (xCons (xB absM (xCons (xV 6) (xNil))) (xNil))) (xC (.int 2147483587))))) (xB intM (xCons (xOp ltM (xV 6) (xC (.int 0))) (xNil)))) (xV 5)) (xNil))) (xC (.int 2147483647))) (gSet 4)) (xFor (xRange1 (xCons (xV 2) (xNil))) (gSet 8) (L__law_deck_0))))
def B__law_deck : Ev → M Fl := xSeq (xAsg (xLst (xNil)) (gSet 3)) (xSeq (xAsg (xOp addM (xC (.int 29)) (xB lenM (xCons (xV 0) (xNil)))) (gSet 4)) (xSeq (xFor (xRange1 (xCons (xV 1) (xNil))) (gSet 5) (L__law_deck_1)) (xSeq (xDrop (xLM0 revM (xV 3))) (xRet (xV 3)))))
def F__law_deck : List D → M D := runD 3 9 B__law_deck
def B__law_key : Ev → M Fl := xRet (xOp modM (xB intM (xCons (xOp addM (xOp mulM (xV 0) (xC (.int 1103515245))) (xC (.int 12345))) (xNil))) (xC (.int 4294967296)))
def F__law_key : List D → M D := runD 1 1 B__law_key
def B__law_secret : Ev → M Fl := xRet (xOp ixM (xLst (xCons (xC (.int 7)) (xCons (xC (.int 0)) (xCons (xC (.int 4294967295)) (xCons (xC (.int 123456)) (xCons (xC (.int 99)) (xCons (xC (.int 31337)) (xNil)))))))) (xV 0))
def F__law_secret : List D → M D := runD 1 1 B__law_secret
def B__law_take : Ev → M Fl := xRet (xIf (xCmpT gtM (xB lenM (xCons (xV 0) (xNil))) (xC (.int 0))) (xOp modM (xB intM (xCons (xLM0 popM (xV 0)) (xNil))) (xV 1)) (xC (.int 0)))
def F__law_take : List D → M D := runD 2 2 B__law_take
def B__law_drawn_move : Ev → M Fl := xSeq (xAsg (xCall (F__law_take) [] (xCons (xV 0) (xCons (xC (.int 8)) (xNil)))) (gSet 1)) (xSeq (xAsg (xCall (F__law_take) [] (xCons (xV 0) (xCons (xC (.int 8)) (xNil)))) (gSet 2)) (xSeq (xIfS (xCmpT ltM (xV 1) (xC (.int 2))) (xRet (xTup (xCons (xC (.str "lock")) (xCons (xCall (F__law_key) [] (xCons (xCall (F__law_secret) [] (xCons (xCall (F__law_take) [] (xCons (xV 0) (xCons (xC (.int 6)) (xNil)))) (xNil))) (xNil))) (xCons (xCall (F__law_take) [] (xCons (xV 0) (xCons (xC (.int 90)) (xNil)))) (xCons (xCall (F__law_take) [] (xCons (xV 0) (xCons (xC (.int 40)) (xNil)))) (xNil))))))) (xPass)) (xSeq (xIfS (xCmpT eqM (xV 1) (xC (.int 2))) (xRet (xTup (xCons (xC (.str "paid")) (xCons (xV 2) (xCons (xCall (F__law_secret) [] (xCons (xCall (F__law_take) [] (xCons (xV 0) (xCons (xC (.int 6)) (xNil)))) (xNil))) (xNil)))))) (xPass)) (xSeq (xIfS (xCmpT eqM (xV 1) (xC (.int 3))) (xRet (xTup (xCons (xC (.str "dropped")) (xCons (xV 2) (xNil))))) (xPass)) (xSeq (xIfS (xCmpT eqM (xV 1) (xC (.int 4))) (xRet (xTup (xCons (xC (.str "back")) (xCons (xV 2) (xNil))))) (xPass)) (xSeq (xIfS (xCmpT ltM (xV 1) (xC (.int 7))) (xRet (xTup (xCons (xC (.str "transfer")) (xCons (xCall (F__law_take) [] (xCons (xV 0) (xCons (xC (.int 120)) (xNil)))) (xNil))))) (xPass)) (xRet (xTup (xCons (xC (.str "finish")) (xNil))))))))))
def F__law_drawn_move : List D → M D := runD 1 3 B__law_drawn_move
def L__law_drawn_receipts_0 : Ev → M Fl := xAsg (xCall (F__law_take) [] (xCons (xV 0) (xCons (xC (.int 45)) (xNil)))) (gSubD (xV 1) (xCall (F__law_key) [] (xCons (xCall (F__law_secret) [] (xCons (xCall (F__law_take) [] (xCons (xV 0) (xCons (xC (.int 6)) (xNil)))) (xNil))) (xNil))))
def B__law_drawn_receipts : Ev → M Fl := xSeq (xAsg (xDict0) (gSet 1)) (xSeq (xFor (xRange1 (xCons (xCall (F__law_take) [] (xCons (xV 0) (xCons (xC (.int 5)) (xNil)))) (xNil))) (gSet 2) (L__law_drawn_receipts_0)) (xRet (xV 1)))
def F__law_drawn_receipts : List D → M D := runD 1 3 B__law_drawn_receipts
def B__law_pick : Ev → M Fl := xRet (xOp ixM (xV 1) (xCall (F__law_take) [] (xCons (xV 0) (xCons (xB lenM (xCons (xV 1) (xNil))) (xNil)))))
def F__law_pick : List D → M D := runD 2 2 B__law_pick
def L__law_drawn_state_0 : Ev → M Fl := xSeq (xAsg (xCall (F__law_key) [] (xCons (xCall (F__law_secret) [] (xCons (xCall (F__law_take) [] (xCons (xV 0) (xCons (xC (.int 6)) (xNil)))) (xNil))) (xNil))) (gSet 3)) (xDrop (xLM appM (xV 1) (xTup (xCons (xV 3) (xCons (xOp addM (xC (.int 1)) (xCall (F__law_take) [] (xCons (xV 0) (xCons (xC (.int 50)) (xNil))))) (xCons (xCall (F__law_take) [] (xCons (xV 0) (xCons (xC (.int 40)) (xNil)))) (xCons (xOp eqM (xCall (F__law_take) [] (xCons (xV 0) (xCons (xC (.int 2)) (xNil)))) (xC (.int 0))) (xNil))))))))
def B__law_drawn_state : Ev → M Fl := xSeq (xAsg (xLst (xNil)) (gSet 1)) (xSeq (xFor (xRange1 (xCons (xCall (F__law_take) [] (xCons (xV 0) (xCons (xC (.int 7)) (xNil)))) (xNil))) (gSet 2) (L__law_drawn_state_0)) (xSeq (xAsg (xCall (F__law_pick) [] (xCons (xV 0) (xCons (xLst (xCons (xCall (F__law_take) [] (xCons (xV 0) (xCons (xC (.int 200)) (xNil)))) (xCons (xOp subM (xCall (F__law_take) [] (xCons (xV 0) (xCons (xC (.int 30)) (xNil)))) (xC (.int 15))) (xNil)))) (xNil)))) (gSet 4)) (xRet (xTup (xCons (xC (.int 3)) (xCons (xCall (F__law_take) [] (xCons (xV 0) (xCons (xC (.int 9)) (xNil)))) (xCons (xV 4) (xCons (xCall (F__law_take) [] (xCons (xV 0) (xCons (xC (.int 200)) (xNil)))) (xCons (xB tupM (xCons (xV 1) (xNil))) (xCons (xC (.bl false)) (xNil)))))))))))
def F__law_drawn_state : List D → M D := runD 1 5 B__law_drawn_state
def L__law_moved_0 : Ev → M Fl := xSeq (xIfS (xTru (xV 8)) (xRet (xC .non)) (xPass)) (xSeq (xAsg (xOp ixM (xV 14) (xC (.int 0))) (gSet 15)) (xSeq (xAsg (xIf (xAndT (xCmpT inM (xV 15) (xLst (xCons (xC (.str "paid")) (xCons (xC (.str "dropped")) (xCons (xC (.str "back")) (xNil)))))) (xCmpT ltM (xOp ixM (xV 14) (xC (.int 1))) (xB lenM (xCons (xV 12) (xNil))))) (xOp ixM (xV 12) (xOp ixM (xV 14) (xC (.int 1)))) (xC .non)) (gSet 16)) (xIfS (xCmpT inM (xV 15) (xLst (xCons (xC (.str "lock")) (xCons (xC (.str "transfer")) (xNil))))) (xSeq (xAsg (xIf (xCmpT eqM (xV 15) (xC (.str "lock"))) (xOp ixM (xV 14) (xC (.int 2))) (xOp ixM (xV 14) (xC (.int 1)))) (gSet 17)) (xSeq (xIfS (xOrT (xTru (xV 13)) (xOrT (xCmpT ltM (xV 17) (xC (.int 1))) (xOrT (xCmpT gtM (xV 17) (xOp addM (xOp ixM (xV 10) (xC (.int 0))) (xV 11))) (xAndT (xCmpT eqM (xV 15) (xC (.str "lock"))) (xCmpT geM (xB lenM (xCons (xV 12) (xNil))) (xC (.int 8))))))) (xRet (xC .non)) (xPass)) (xSeq (xAsg (xOp subM (xOp ixM (xV 10) (xC (.int 0))) (xV 17)) (gSubD (xV 10) (xC (.int 0)))) (xIfS (xCmpT eqM (xV 15) (xC (.str "lock"))) (xDrop (xLM appM (xV 12) (xTup (xCons (xOp ixM (xV 14) (xC (.int 1))) (xCons (xV 17) (xCons (xOp ixM (xV 14) (xC (.int 3))) (xCons (xV 9) (xNil)))))))) (xAsg (xOp addM (xOp ixM (xV 10) (xC (.int 1))) (xV 17)) (gSubD (xV 10) (xC (.int 1)))))))) (xIfS (xCmpT eqM (xV 15) (xC (.str "finish"))) (xSeq (xIfS (xOrT (xTru (xV 13)) (xCmpT gtM (xB lenM (xCons (xV 12) (xNil))) (xC (.int 0)))) (xRet (xC .non)) (xPass)) (xAsg (xC (.bl true)) (gSet 13))) (xSeq (xIfS (xOrT (xCmpT isM (xV 16) (xC .non)) (xOrT (xCmpT neM (xOp eqM (xOp ixM (xV 16) (xC (.int 3))) (xV 9)) (xOp eqM (xV 15) (xC (.str "back")))) (xAndT (xCmpT eqM (xV 15) (xC (.str "paid"))) (xCmpT neM (xCall (F__law_key) [] (xCons (xOp ixM (xV 14) (xC (.int 2))) (xNil))) (xOp ixM (xV 16) (xC (.int 0))))))) (xRet (xC .non)) (xPass)) (xSeq (xAsg (xB intM (xCons (xOp eqM (xV 15) (xC (.str "dropped"))) (xNil))) (gSet 18)) (xSeq (xAsg (xOp addM (xOp ixM (xV 10) (xV 18)) (xOp ixM (xV 16) (xC (.int 1)))) (gSubD (xV 10) (xV 18))) (xAsg (xOp addM (xSl (xV 12) (xNoPart) (xPart (xOp ixM (xV 14) (xC (.int 1))))) (xSl (xV 12) (xPart (xOp addM (xOp ixM (xV 14) (xC (.int 1))) (xC (.int 1)))) (xNoPart))) (gSet 12)))))))))
def B__law_moved : Ev → M Fl := xSeq (xAsg (xV 0) (gTupD 6 (gsCons (gSet 3) (gsCons (gSet 4) (gsCons (gSet 5) (gsCons (gSet 6) (gsCons (gSet 7) (gsCons (gSet 8) (gsNil))))))))) (xSeq (xAsg (xOp eqM (xOp subM (xV 4) (xOp mulM (xC (.int 2)) (xOp fdivM (xV 4) (xC (.int 2))))) (xC (.int 0))) (gSet 9)) (xSeq (xAsg (xIf (xTru (xV 9)) (xLst (xCons (xV 5) (xCons (xV 6) (xNil)))) (xLst (xCons (xV 6) (xCons (xV 5) (xNil))))) (gSet 10)) (xSeq (xAsg (xIf (xTru (xV 9)) (xOp ixM (xV 2) (xC (.int 0))) (xOp ixM (xV 2) (xC (.int 1)))) (gSet 11)) (xSeq (xAsg (xB listM (xCons (xV 7) (xNil))) (gSet 12)) (xSeq (xAsg (xC (.bl false)) (gSet 13)) (xSeq (xFor (xIter (xV 1)) (gSet 14) (L__law_moved_0)) (xSeq (xIfS (xTru (xV 8)) (xRet (xC .non)) (xPass)) (xSeq (xAsg (xIf (xTru (xV 9)) (xV 10) (xLst (xCons (xOp ixM (xV 10) (xC (.int 1))) (xCons (xOp ixM (xV 10) (xC (.int 0))) (xNil))))) (gSet 19)) (xRet (xTup (xCons (xV 3) (xCons (xOp addM (xV 4) (xC (.int 1))) (xCons (xOp ixM (xV 19) (xC (.int 0))) (xCons (xOp ixM (xV 19) (xC (.int 1))) (xCons (xB tupM (xCons (xV 12) (xNil))) (xCons (xV 13) (xNil)))))))))))))))))
def F__law_moved : List D → M D := runD 3 20 B__law_moved
def L__law_right_moves_0 : Ev → M Fl := xSeq (xAsg (xCall (F__law_drawn_move) [] (xCons (xV 0) (xNil))) (gSet 6)) (xIfS (xAndT (xCmpT ltM (xB lenM (xCons (xV 4) (xNil))) (xV 3)) (xCmpT isntM (xCall (F__law_moved) [] (xCons (xV 1) (xCons (xOp addM (xV 4) (xLst (xCons (xV 6) (xNil)))) (xCons (xV 2) (xNil))))) (xC .non))) (xDrop (xLM appM (xV 4) (xV 6))) (xPass))
def B__law_right_moves : Ev → M Fl := xSeq (xAsg (xLst (xNil)) (gSet 4)) (xSeq (xFor (xRange1 (xCons (xOp mulM (xC (.int 4)) (xV 3)) (xNil))) (gSet 5) (L__law_right_moves_0)) (xRet (xV 4)))
def F__law_right_moves : List D → M D := runD 4 7 B__law_right_moves
def F__law_plain : Nat → List D → M D
  | 0 => fun _ _ => none
  | n + 1 => runD 1 2 (xSeq (xIfS (xTru (xUn (isiM ["tuple", "list"]) (xV 0))) (xRet (xOp addM (xLst (xCons (xUn (isiM ["list"]) (xV 0)) (xNil))) (xComp (xIter (xV 0)) (gSet 1) (xYes) (xCall (F__law_plain n) [] (xCons (xV 1) (xNil))) [1]))) (xPass)) (xSeq (xIfS (xOrT (xCmpT isM (xV 0) (xC .non)) (xTru (xUn (isiM ["bool"]) (xV 0)))) (xRet (xOp ixM (xLst (xCons (xC (.str "None")) (xCons (xC (.str "False")) (xCons (xC (.str "True")) (xNil))))) (xOp addM (xB intM (xCons (xOp isntM (xV 0) (xC .non)) (xNil))) (xB intM (xCons (xOp isM (xV 0) (xC (.bl true))) (xNil)))))) (xPass)) (xRet (xIf (xTru (xUn (isiM ["int", "str"]) (xV 0))) (xLst (xCons (xUn (isiM ["str"]) (xV 0)) (xCons (xV 0) (xNil)))) (xC (.str "another"))))))
def B__law_same : Ev → M Fl := xRet (xOp eqM (xCall (F__law_plain 12) [] (xCons (xV 0) (xNil))) (xCall (F__law_plain 12) [] (xCons (xV 1) (xNil))))
def F__law_same : List D → M D := runD 2 2 B__law_same
def B__law_turned_state : Ev → M Fl := xSeq (xAsg (xB tupM (xCons (xComp (xIter (xOp ixM (xV 0) (xC (.int 4)))) (gTupD 4 (gsCons (gSet 2) (gsCons (gSet 3) (gsCons (gSet 4) (gsCons (gSet 5) (gsNil)))))) (xYes) (xTup (xCons (xV 2) (xCons (xV 3) (xCons (xV 4) (xCons (xNotV (xV 5)) (xNil)))))) [2, 3, 4, 5]) (xNil))) (gSet 1)) (xRet (xTup (xCons (xOp ixM (xV 0) (xC (.int 0))) (xCons (xOp addM (xOp ixM (xV 0) (xC (.int 1))) (xC (.int 1))) (xCons (xOp ixM (xV 0) (xC (.int 3))) (xCons (xOp ixM (xV 0) (xC (.int 2))) (xCons (xV 1) (xCons (xOp ixM (xV 0) (xC (.int 5))) (xNil)))))))))
def F__law_turned_state : List D → M D := runD 1 6 B__law_turned_state
def L__law_worth_0 : Ev → M Fl := xSeq (xAsg (xAndV (xOp inM (xV 3) (xV 1)) (xOp leM (xOp ixM (xV 1) (xV 3)) (xV 5))) (gSet 7)) (xAugI iaddM (xV 2) (xB intM (xCons (xOp eqM (xV 7) (xV 6)) (xNil))) (xV 4))
def B__law_worth : Ev → M Fl := xSeq (xAsg (xLst (xCons (xOp ixM (xV 0) (xC (.int 2))) (xCons (xOp ixM (xV 0) (xC (.int 3))) (xNil)))) (gSet 2)) (xSeq (xFor (xIter (xOp ixM (xV 0) (xC (.int 4)))) (gTupD 4 (gsCons (gSet 3) (gsCons (gSet 4) (gsCons (gSet 5) (gsCons (gSet 6) (gsNil)))))) (L__law_worth_0)) (xRet (xTup (xCons (xOp ixM (xV 2) (xC (.int 0))) (xCons (xOp ixM (xV 2) (xC (.int 1))) (xNil))))))
def F__law_worth : List D → M D := runD 2 8 B__law_worth
def B_first_proposes : Ev → M Fl := xRet (xOp eqM (xOp modM (xV 0) (xC (.int 2))) (xC (.int 1)))
def F_first_proposes : List D → M D := runD 1 1 B_first_proposes
def B_was_opened : Ev → M Fl := xSeq (xAsg (xGet1 (xV 1) (xOp ixM (xV 0) (xC (.int 0)))) (gSet 2)) (xRet (xAndV (xOp isntM (xV 2) (xC .non)) (xOp leM (xV 2) (xOp ixM (xV 0) (xC (.int 2))))))
def F_was_opened : List D → M D := runD 2 3 B_was_opened
def L_lock_shares_0 : Ev → M Fl := xIfS (xCmpT eqM (xCall (F_was_opened) [] (xCons (xV 4) (xCons (xV 1) (xNil)))) (xOp ixM (xV 4) (xC (.int 3)))) (xAug 3 (xOp ixM (xV 4) (xC (.int 1))) iaddM) (xAug 2 (xOp ixM (xV 4) (xC (.int 1))) iaddM)
def B_lock_shares : Ev → M Fl := xSeq (xAsg (xC (.int 0)) (gSet 2)) (xSeq (xAsg (xC (.int 0)) (gSet 3)) (xSeq (xFor (xIter (xV 0)) (gSet 4) (L_lock_shares_0)) (xRet (xTup (xCons (xV 2) (xCons (xV 3) (xNil)))))))
def F_lock_shares : List D → M D := runD 2 5 B_lock_shares
def B_Draft___init__ : Ev → M Fl := xSeq (xSetF cs_from_first "from_first" (xV 0) (xCall (F_first_proposes) [] (xCons (xOp addM (xOp ixM (xV 1) (xC (.int 1))) (xC (.int 1))) (xNil)))) (xSeq (xIfS (xTru (xUn (fldM cs_from_first "from_first") (xV 0))) (xSeq (xSetF cs_own "own" (xV 0) (xOp ixM (xV 1) (xC (.int 2)))) (xSeq (xSetF cs_others "others" (xV 0) (xOp ixM (xV 1) (xC (.int 3)))) (xSetF cs_spare "spare" (xV 0) (xOp ixM (xV 2) (xC (.int 0)))))) (xSeq (xSetF cs_own "own" (xV 0) (xOp ixM (xV 1) (xC (.int 3)))) (xSeq (xSetF cs_others "others" (xV 0) (xOp ixM (xV 1) (xC (.int 2)))) (xSetF cs_spare "spare" (xV 0) (xOp ixM (xV 2) (xC (.int 1))))))) (xSeq (xSetF cs_locks "locks" (xV 0) (xB listM (xCons (xOp ixM (xV 1) (xC (.int 4))) (xNil)))) (xSetF cs_closed "closed" (xV 0) (xC (.bl false)))))
def F_Draft___init__ : List D → M D := runD 3 3 B_Draft___init__
def B_Draft_as_state : Ev → M Fl := xSeq (xIfS (xTru (xUn (fldM cs_from_first "from_first") (xV 0))) (xRet (xTup (xCons (xV 1) (xCons (xV 2) (xCons (xUn (fldM cs_own "own") (xV 0)) (xCons (xUn (fldM cs_others "others") (xV 0)) (xCons (xB tupM (xCons (xUn (fldM cs_locks "locks") (xV 0)) (xNil))) (xCons (xUn (fldM cs_closed "closed") (xV 0)) (xNil))))))))) (xPass)) (xRet (xTup (xCons (xV 1) (xCons (xV 2) (xCons (xUn (fldM cs_others "others") (xV 0)) (xCons (xUn (fldM cs_own "own") (xV 0)) (xCons (xB tupM (xCons (xUn (fldM cs_locks "locks") (xV 0)) (xNil))) (xCons (xUn (fldM cs_closed "closed") (xV 0)) (xNil)))))))))
def F_Draft_as_state : List D → M D := runD 3 3 B_Draft_as_state
def B_Draft_lock_at : Ev → M Fl := xSeq (xIfS (xChainT leM ltM (xC (.int 0)) (xV 1) (xB lenM (xCons (xUn (fldM cs_locks "locks") (xV 0)) (xNil)))) (xRet (xOp ixM (xUn (fldM cs_locks "locks") (xV 0)) (xV 1))) (xPass)) (xRet (xC .non))
def F_Draft_lock_at : List D → M D := runD 2 2 B_Draft_lock_at
def B_Draft_drop_lock : Ev → M Fl := xSeq (xAsg (xMeth "Draft" "lock_at" (F_Draft_lock_at) [] (xV 0) (xCons (xV 1) (xNil))) (gSet 2)) (xSeq (xIfS (xOrT (xCmpT isM (xV 2) (xC .non)) (xCmpT eqM (xOp ixM (xV 2) (xC (.int 3))) (xUn (fldM cs_from_first "from_first") (xV 0)))) (xRet (xC (.bl false))) (xPass)) (xSeq (xDel (xUn (fldM cs_locks "locks") (xV 0)) (xV 1)) (xSeq (xAugF cs_others "others" iaddM (xV 0) (xOp ixM (xV 2) (xC (.int 1)))) (xRet (xC (.bl true))))))
def F_Draft_drop_lock : List D → M D := runD 2 3 B_Draft_drop_lock
def B_Draft_finish_up : Ev → M Fl := xSeq (xIfS (xOrT (xTru (xUn (fldM cs_closed "closed") (xV 0))) (xTru (xUn (fldM cs_locks "locks") (xV 0)))) (xRet (xC (.bl false))) (xPass)) (xSeq (xSetF cs_closed "closed" (xV 0) (xC (.bl true))) (xRet (xC (.bl true))))
def F_Draft_finish_up : List D → M D := runD 1 1 B_Draft_finish_up
def B_Draft_can_spend : Ev → M Fl := xRet (xAndV (xNotV (xUn (fldM cs_closed "closed") (xV 0))) (xChain leM leM (xC (.int 1)) (xV 1) (xOp addM (xUn (fldM cs_own "own") (xV 0)) (xUn (fldM cs_spare "spare") (xV 0)))))
def F_Draft_can_spend : List D → M D := runD 2 2 B_Draft_can_spend
def B_Draft_hand_over : Ev → M Fl := xSeq (xIfS (xNotT (xTru (xMeth "Draft" "can_spend" (F_Draft_can_spend) [] (xV 0) (xCons (xV 1) (xNil))))) (xRet (xC (.bl false))) (xPass)) (xSeq (xAugF cs_own "own" subM (xV 0) (xV 1)) (xSeq (xAugF cs_others "others" iaddM (xV 0) (xV 1)) (xRet (xC (.bl true)))))
def F_Draft_hand_over : List D → M D := runD 2 2 B_Draft_hand_over
def B_Draft_put_lock : Ev → M Fl := xSeq (xIfS (xOrT (xNotT (xTru (xMeth "Draft" "can_spend" (F_Draft_can_spend) [] (xV 0) (xCons (xV 2) (xNil))))) (xCmpT geM (xB lenM (xCons (xUn (fldM cs_locks "locks") (xV 0)) (xNil))) ((xC (.int 8))))) (xRet (xC (.bl false))) (xPass)) (xSeq (xAugF cs_own "own" subM (xV 0) (xV 2)) (xSeq (xDrop (xLM appM (xUn (fldM cs_locks "locks") (xV 0)) (xTup (xCons (xV 1) (xCons (xV 2) (xCons (xV 3) (xCons (xUn (fldM cs_from_first "from_first") (xV 0)) (xNil)))))))) (xRet (xC (.bl true)))))
def F_Draft_put_lock : List D → M D := runD 4 4 B_Draft_put_lock
def B_Draft_take_back : Ev → M Fl := xSeq (xAsg (xMeth "Draft" "lock_at" (F_Draft_lock_at) [] (xV 0) (xCons (xV 1) (xNil))) (gSet 2)) (xSeq (xIfS (xOrT (xCmpT isM (xV 2) (xC .non)) (xCmpT neM (xOp ixM (xV 2) (xC (.int 3))) (xUn (fldM cs_from_first "from_first") (xV 0)))) (xRet (xC (.bl false))) (xPass)) (xSeq (xDel (xUn (fldM cs_locks "locks") (xV 0)) (xV 1)) (xSeq (xAugF cs_own "own" iaddM (xV 0) (xOp ixM (xV 2) (xC (.int 1)))) (xRet (xC (.bl true))))))
def F_Draft_take_back : List D → M D := runD 2 3 B_Draft_take_back
def B_key_of : Ev → M Fl := xRet (xOp modM (xOp addM (xOp mulM (xV 0) ((xC (.int 1103515245)))) ((xC (.int 12345)))) ((xC (.int 4294967296))))
def F_key_of : List D → M D := runD 1 1 B_key_of
def B_Draft_take_paid : Ev → M Fl := xSeq (xAsg (xMeth "Draft" "lock_at" (F_Draft_lock_at) [] (xV 0) (xCons (xV 1) (xNil))) (gSet 3)) (xSeq (xIfS (xOrT (xCmpT isM (xV 3) (xC .non)) (xOrT (xCmpT eqM (xOp ixM (xV 3) (xC (.int 3))) (xUn (fldM cs_from_first "from_first") (xV 0))) (xCmpT neM (xOp ixM (xV 3) (xC (.int 0))) (xCall (F_key_of) [] (xCons (xV 2) (xNil)))))) (xRet (xC (.bl false))) (xPass)) (xSeq (xDel (xUn (fldM cs_locks "locks") (xV 0)) (xV 1)) (xSeq (xAugF cs_own "own" iaddM (xV 0) (xOp ixM (xV 3) (xC (.int 1)))) (xRet (xC (.bl true))))))
def F_Draft_take_paid : List D → M D := runD 3 4 B_Draft_take_paid
def B_Draft_make : Ev → M Fl := xSeq (xAsg (xOp ixM (xV 1) (xC (.int 0))) (gSet 2)) (xSeq (xIfS (xCmpT eqM (xV 2) (xC (.str "lock"))) (xRet (xMeth "Draft" "put_lock" (F_Draft_put_lock) [] (xV 0) (xCons (xOp ixM (xV 1) (xC (.int 1))) (xCons (xOp ixM (xV 1) (xC (.int 2))) (xCons (xOp ixM (xV 1) (xC (.int 3))) (xNil)))))) (xPass)) (xSeq (xIfS (xCmpT eqM (xV 2) (xC (.str "paid"))) (xRet (xMeth "Draft" "take_paid" (F_Draft_take_paid) [] (xV 0) (xCons (xOp ixM (xV 1) (xC (.int 1))) (xCons (xOp ixM (xV 1) (xC (.int 2))) (xNil))))) (xPass)) (xSeq (xIfS (xCmpT eqM (xV 2) (xC (.str "dropped"))) (xRet (xMeth "Draft" "drop_lock" (F_Draft_drop_lock) [] (xV 0) (xCons (xOp ixM (xV 1) (xC (.int 1))) (xNil)))) (xPass)) (xSeq (xIfS (xCmpT eqM (xV 2) (xC (.str "back"))) (xRet (xMeth "Draft" "take_back" (F_Draft_take_back) [] (xV 0) (xCons (xOp ixM (xV 1) (xC (.int 1))) (xNil)))) (xPass)) (xSeq (xIfS (xCmpT eqM (xV 2) (xC (.str "transfer"))) (xRet (xMeth "Draft" "hand_over" (F_Draft_hand_over) [] (xV 0) (xCons (xOp ixM (xV 1) (xC (.int 1))) (xNil)))) (xPass)) (xRet (xMeth "Draft" "finish_up" (F_Draft_finish_up) [] (xV 0) xNil)))))))
def F_Draft_make : List D → M D := runD 2 3 B_Draft_make
def L_next_state_0 : Ev → M Fl := xIfS (xNotT (xTru (xMeth "Draft" "make" (F_Draft_make) [] (xV 3) (xCons (xV 4) (xNil))))) (xRet (xC .non)) (xPass)
def B_next_state : Ev → M Fl := xSeq (xIfS (xTru (xOp ixM (xV 0) (xC (.int 5)))) (xRet (xC .non)) (xPass)) (xSeq (xAsg (xMake "Draft" (F_Draft___init__) [] (xCons (xV 0) (xCons (xV 2) (xNil)))) (gSet 3)) (xSeq (xFor (xIter (xV 1)) (gSet 4) (L_next_state_0)) (xRet (xMeth "Draft" "as_state" (F_Draft_as_state) [] (xV 3) (xCons (xOp ixM (xV 0) (xC (.int 0))) (xCons (xOp addM (xOp ixM (xV 0) (xC (.int 1))) (xC (.int 1))) (xNil)))))))
def F_next_state : List D → M D := runD 3 5 B_next_state
def B_worth : Ev → M Fl := xSeq (xAsg (xCall (F_lock_shares) [] (xCons (xOp ixM (xV 0) (xC (.int 4))) (xCons (xV 1) (xNil)))) (gSet 2)) (xRet (xTup (xCons (xOp addM (xOp ixM (xV 0) (xC (.int 2))) (xOp ixM (xV 2) (xC (.int 0)))) (xCons (xOp addM (xOp ixM (xV 0) (xC (.int 3))) (xOp ixM (xV 2) (xC (.int 1)))) (xNil)))))
def F_worth : List D → M D := runD 2 3 B_worth
def L_law_0 : Ev → M Fl := xSeq (xAsg (xCall (F__law_drawn_state) [] (xCons (xV 1) (xNil))) (gSet 3)) (xSeq (xAsg (xTup (xCons (xOp subM (xCall (F__law_take) [] (xCons (xV 1) (xCons (xC (.int 60)) (xNil)))) (xC (.int 20))) (xCons (xOp subM (xCall (F__law_take) [] (xCons (xV 1) (xCons (xC (.int 60)) (xNil)))) (xC (.int 20))) (xNil)))) (gSet 4)) (xSeq (xAsg (xIf (xCmpT gtM (xCall (F__law_take) [] (xCons (xV 1) (xCons (xC (.int 3)) (xNil)))) (xC (.int 0))) (xCall (F__law_right_moves) [] (xCons (xV 1) (xCons (xV 3) (xCons (xV 4) (xCons (xOp addM (xC (.int 1)) (xCall (F__law_take) [] (xCons (xV 1) (xCons (xC (.int 5)) (xNil))))) (xNil)))))) (xComp (xRange1 (xCons (xCall (F__law_take) [] (xCons (xV 1) (xCons (xC (.int 4)) (xNil)))) (xNil))) (gSet 12) (xYes) (xCall (F__law_drawn_move) [] (xCons (xV 1) (xNil))) [12])) (gSet 5)) (xSeq (xAsg (xCall (F__law_moved) [] (xCons (xV 3) (xCons (xV 5) (xCons (xV 4) (xNil))))) (gSet 6)) (xSeq (xAsg (xCall (F__law_turned_state) [] (xCons (xV 3) (xNil))) (gSet 7)) (xSeq (xAsg (xCallK 2 1 (F_next_state) (xCons (xV 7) (xCons (xB tupM (xCons (xV 5) (xNil))) (xNil))) (xCons (xTup (xCons (xOp ixM (xV 4) (xC (.int 1))) (xCons (xOp ixM (xV 4) (xC (.int 0))) (xNil)))) (xNil))) (gSet 8)) (xSeq (xIfS (xNotT (xTru (xCall (F__law_same) [] (xCons (xCallK 2 1 (F_next_state) (xCons (xV 3) (xCons (xB tupM (xCons (xV 5) (xNil))) (xNil))) (xCons (xV 4) (xNil))) (xCons (xV 6) (xNil)))))) (xRet (xC (.bl false))) (xPass)) (xSeq (xIfS (xNotT (xTru (xCall (F__law_same) [] (xCons (xV 8) (xCons (xIf (xCmpT isM (xV 6) (xC .non)) (xC .non) (xCall (F__law_turned_state) [] (xCons (xV 6) (xNil)))) (xNil)))))) (xRet (xC (.bl false))) (xPass)) (xSeq (xAsg (xCall (F__law_drawn_receipts) [] (xCons (xV 1) (xNil))) (gSet 9)) (xSeq (xAsg (xCall (F__law_worth) [] (xCons (xV 3) (xCons (xV 9) (xNil)))) (gSet 10)) (xSeq (xIfS (xNotT (xTru (xCall (F__law_same) [] (xCons (xLst (xCons (xCall (F_worth) [] (xCons (xV 3) (xCons (xB dictM (xCons (xV 9) (xNil))) (xNil)))) (xCons (xCall (F_worth) [] (xCons (xV 7) (xCons (xB dictM (xCons (xV 9) (xNil))) (xNil)))) (xNil)))) (xCons (xLst (xCons (xV 10) (xCons (xTup (xCons (xOp ixM (xV 10) (xC (.int 1))) (xCons (xOp ixM (xV 10) (xC (.int 0))) (xNil)))) (xNil)))) (xNil)))))) (xRet (xC (.bl false))) (xPass)) (xSeq (xAsg (xTup (xCons (xOp subM (xOp ixM (xV 10) (xC (.int 0))) (xOp ixM (xV 3) (xC (.int 2)))) (xCons (xOp subM (xOp ixM (xV 10) (xC (.int 1))) (xOp ixM (xV 3) (xC (.int 3)))) (xNil)))) (gSet 11)) (xSeq (xIfS (xNotT (xTru (xCall (F__law_same) [] (xCons (xLst (xCons (xCall (F_lock_shares) [] (xCons (xOp ixM (xV 3) (xC (.int 4))) (xCons (xB dictM (xCons (xV 9) (xNil))) (xNil)))) (xCons (xCall (F_lock_shares) [] (xCons (xOp ixM (xV 7) (xC (.int 4))) (xCons (xB dictM (xCons (xV 9) (xNil))) (xNil)))) (xNil)))) (xCons (xLst (xCons (xV 11) (xCons (xTup (xCons (xOp ixM (xV 11) (xC (.int 1))) (xCons (xOp ixM (xV 11) (xC (.int 0))) (xNil)))) (xNil)))) (xNil)))))) (xRet (xC (.bl false))) (xPass)) (xIfS (xCmpT eqM (xCall (F_first_proposes) [] (xCons (xOp ixM (xV 3) (xC (.int 1))) (xNil))) (xCall (F_first_proposes) [] (xCons (xOp ixM (xV 7) (xC (.int 1))) (xNil)))) (xRet (xC (.bl false))) (xPass))))))))))))))
def B_law : Ev → M Fl := xSeq (xAsg (xCall (F__law_deck) [] (xCons (xV 0) (xCons (xC (.int 50)) (xCons (xC (.int 14)) (xNil))))) (gSet 1)) (xSeq (xFor (xRange1 (xCons (xC (.int 5)) (xNil))) (gSet 2) (L_law_0)) (xRet (xC (.bl true))))
def F_law : List D → M D := runD 1 13 B_law
end Lk00

set_option Elab.async false
set_option linter.all false
set_option autoImplicit false
set_option maxRecDepth 100000
set_option maxHeartbeats 4000000
namespace Lk00
open Dt PySem
/-! ### the deck -/
theorem deck_law (ns : List Int) (cells each : Int) (hc : 0 ≤ cells ∧ cells ≤ 900) (he : 0 ≤ each ∧ each ≤ 900) (QQ : D → Hd → Prop) (q : ∀ h, Dk h → h[0]? = some (.ro (ns.map D.int)) → QQ (.ref 1) h) : W (F__law_deck [.ref 0, .int cells, .int each]) [.ro (ns.map D.int)] QQ := by
  unfold F__law_deck B__law_deck
  refine w_run rfl ?_
  try simp only [W_seq, W_asg, W_set, W_V, WV_some, W_C, W_op, W_cmpT, W_isB, W_un, W_tru, W_andT, W_orT, W_notT, W_andV, W_orV, W_notV, W_ife, W_nil, W_cons, W_tup, W_lst, W_addI, W_subI, W_iaddI, W_negI, W_mulI, W_fdivI, W_modI, W_powI, W_cmpI, W_isB_bl, W_isNB, W_isN, W_isntB, W_isntN, W_eqI, W_neI, W_pass, W_brk, W_cont, W_drop, W_rt, W_rtN, W_ifS, W_gsNil, W_gsCons, W_gTup, W_aug, W_call, W_B, RtN_rt, RtN_nx, W_abs, W_intI, W_intB, W_noPart, W_part, W_sl, W_lm, W_lm0, W_iter, W_range1, W_range2, W_forE, W_revE, W_compE, W_yes, W_lenT, W_truB, W_truI, List.append_nil, List.getElem?_cons_zero, List.getElem?_cons_succ, List.set_cons_zero, List.set_cons_succ, List.getElem?_set_self, List.getElem?_set_ne, lt_set, ne_eq, Nat.reduceEqDiff, not_false_eq_true, Nat.reduceLT, Nat.zero_ne_one, Nat.one_ne_zero, Nat.lt_add_one, Nat.zero_lt_succ, startD, List.map_cons, List.map_nil, List.length_cons, List.length_nil, List.cons_append, List.nil_append, Nat.reduceAdd, Nat.reduceSub, Nat.zero_add, List.replicate_succ, List.replicate_zero]
  refine ⟨by decide, ?_⟩
  rw [W_lenR (xs := ns.map D.int) rfl]
  try simp only [W_seq, W_asg, W_set, W_V, WV_some, W_C, W_op, W_cmpT, W_isB, W_un, W_tru, W_andT, W_orT, W_notT, W_andV, W_orV, W_notV, W_ife, W_nil, W_cons, W_tup, W_lst, W_addI, W_subI, W_iaddI, W_negI, W_mulI, W_fdivI, W_modI, W_powI, W_cmpI, W_isB_bl, W_isNB, W_isN, W_isntB, W_isntN, W_eqI, W_neI, W_pass, W_brk, W_cont, W_drop, W_rt, W_rtN, W_ifS, W_gsNil, W_gsCons, W_gTup, W_aug, W_call, W_B, RtN_rt, RtN_nx, W_abs, W_intI, W_intB, W_noPart, W_part, W_sl, W_lm, W_lm0, W_iter, W_range1, W_range2, W_forE, W_revE, W_compE, W_yes, W_lenT, W_truB, W_truI, List.append_nil, List.getElem?_cons_zero, List.getElem?_cons_succ, List.set_cons_zero, List.set_cons_succ, List.getElem?_set_self, List.getElem?_set_ne, lt_set, ne_eq, Nat.reduceEqDiff, not_false_eq_true, Nat.reduceLT, Nat.zero_ne_one, Nat.one_ne_zero, Nat.lt_add_one, Nat.zero_lt_succ, startD, List.map_cons, List.map_nil, List.length_cons, List.length_nil, List.cons_append, List.nil_append, Nat.reduceAdd, Nat.reduceSub, Nat.zero_add, List.replicate_succ, List.replicate_zero]
  refine ⟨_, rfl, by omega, ?_⟩
  refine w_forR (fun k σ h => σ.length = 9 ∧ σ[0]? = some (some (.ref 0)) ∧ σ[2]? = some (some (.int each)) ∧ σ[3]? = some (some (.ref 1)) ∧ (∃ s : Int, σ[4]? = some (some (.int s))) ∧ h[0]? = some (.ro (ns.map D.int)) ∧ ∃ xs : List Int, h[1]? = some (.lst (xs.map D.int)) ∧ xs.length ≤ k * each.toNat) ⟨by simp, by simp, by simp, by simp, ⟨_, by simp; rfl⟩, by simp, [], by simp, by simp⟩ ?_ ?_
  · rintro k σ h hk ⟨hl, s0, s2, s3, ⟨s, s4⟩, c0, xs, c1, lx⟩
    suffices z : ∀ QX : Fl → Hd → Prop, (∀ (σ' : Ev) (h2 : Hd), (σ'.length = 9 ∧ σ'[0]? = some (some (.ref 0)) ∧ σ'[2]? = some (some (.int each)) ∧ σ'[3]? = some (some (.ref 1)) ∧ (∃ s : Int, σ'[4]? = some (some (.int s))) ∧ h2[0]? = some (.ro (ns.map D.int)) ∧ ∃ xs : List Int, h2[1]? = some (.lst (xs.map D.int)) ∧ xs.length ≤ (k + 1) * each.toNat) → QX (.nx σ') h2) → W (gSet 5 (.int (0 + (k : Int))) σ) h fun σ1 h1 => W (L__law_deck_1 σ1) h1 QX from z _ fun σ' h2 p => p
    intro QX hQ
    unfold L__law_deck_1
    have key : ∀ (cell : Int), W (xSeq (xAsg (xOp mulM (xB absM (xCons (xV 6) (xNil))) (xB intM (xCons (xOp geM (xB absM (xCons (xV 6) (xNil))) (xOp powM (xC (.int 10)) (xC (.int 18)))) (xNil)))) (gSet 7)) (xSeq (xAsg (xOp modM (xB intM (xCons (xOp addM (xOp addM (xOp addM (xOp mulM (xV 4) (xC (.int 48271))) (xOp mulM (xC (.int 3)) (xOp modM (xB intM (xCons (xB absM (xCons (xV 6) (xNil))) (xNil))) (xC (.int 2147483587))))) (xB intM (xCons (xOp ltM (xV 6) (xC (.int 0))) (xNil)))) (xV 5)) (xNil))) (xC (.int 2147483647))) (gSet 4)) (xFor (xRange1 (xCons (xV 2) (xNil))) (gSet 8) (L__law_deck_0))) ((σ.set 5 (some (.int (0 + (k : Int))))).set 6 (some (.int cell)))) h QX := by
      intro cell
      try simp only [W_seq, W_asg, W_set, W_V, WV_some, W_C, W_op, W_cmpT, W_isB, W_un, W_tru, W_andT, W_orT, W_notT, W_andV, W_orV, W_notV, W_ife, W_nil, W_cons, W_tup, W_lst, W_addI, W_subI, W_iaddI, W_negI, W_mulI, W_fdivI, W_modI, W_powI, W_cmpI, W_isB_bl, W_isNB, W_isN, W_isntB, W_isntN, W_eqI, W_neI, W_pass, W_brk, W_cont, W_drop, W_rt, W_rtN, W_ifS, W_gsNil, W_gsCons, W_gTup, W_aug, W_call, W_B, RtN_rt, RtN_nx, W_abs, W_intI, W_intB, W_noPart, W_part, W_sl, W_lm, W_lm0, W_iter, W_range1, W_range2, W_forE, W_revE, W_compE, W_yes, W_lenT, W_truB, W_truI, List.append_nil, List.getElem?_cons_zero, List.getElem?_cons_succ, List.set_cons_zero, List.set_cons_succ, List.getElem?_set_self, List.getElem?_set_ne, lt_set, ne_eq, Nat.reduceEqDiff, not_false_eq_true, Nat.reduceLT, Nat.zero_ne_one, Nat.one_ne_zero, Nat.lt_add_one, Nat.zero_lt_succ, startD, List.map_cons, List.map_nil, List.length_cons, List.length_nil, List.cons_append, List.nil_append, Nat.reduceAdd, Nat.reduceSub, Nat.zero_add, List.replicate_succ, List.replicate_zero, hl, s0, s2, s3, s4]
      refine ⟨by decide, ?_⟩
      try simp only [W_seq, W_asg, W_set, W_V, WV_some, W_C, W_op, W_cmpT, W_isB, W_un, W_tru, W_andT, W_orT, W_notT, W_andV, W_orV, W_notV, W_ife, W_nil, W_cons, W_tup, W_lst, W_addI, W_subI, W_iaddI, W_negI, W_mulI, W_fdivI, W_modI, W_powI, W_cmpI, W_isB_bl, W_isNB, W_isN, W_isntB, W_isntN, W_eqI, W_neI, W_pass, W_brk, W_cont, W_drop, W_rt, W_rtN, W_ifS, W_gsNil, W_gsCons, W_gTup, W_aug, W_call, W_B, RtN_rt, RtN_nx, W_abs, W_intI, W_intB, W_noPart, W_part, W_sl, W_lm, W_lm0, W_iter, W_range1, W_range2, W_forE, W_revE, W_compE, W_yes, W_lenT, W_truB, W_truI, List.append_nil, List.getElem?_cons_zero, List.getElem?_cons_succ, List.set_cons_zero, List.set_cons_succ, List.getElem?_set_self, List.getElem?_set_ne, lt_set, ne_eq, Nat.reduceEqDiff, not_false_eq_true, Nat.reduceLT, Nat.zero_ne_one, Nat.one_ne_zero, Nat.lt_add_one, Nat.zero_lt_succ, startD, List.map_cons, List.map_nil, List.length_cons, List.length_nil, List.cons_append, List.nil_append, Nat.reduceAdd, Nat.reduceSub, Nat.zero_add, List.replicate_succ, List.replicate_zero, hl, s0, s2, s3, s4]
      refine ⟨.inr (by repeat' split
                       all_goals decide), ?_⟩
      try simp only [W_seq, W_asg, W_set, W_V, WV_some, W_C, W_op, W_cmpT, W_isB, W_un, W_tru, W_andT, W_orT, W_notT, W_andV, W_orV, W_notV, W_ife, W_nil, W_cons, W_tup, W_lst, W_addI, W_subI, W_iaddI, W_negI, W_mulI, W_fdivI, W_modI, W_powI, W_cmpI, W_isB_bl, W_isNB, W_isN, W_isntB, W_isntN, W_eqI, W_neI, W_pass, W_brk, W_cont, W_drop, W_rt, W_rtN, W_ifS, W_gsNil, W_gsCons, W_gTup, W_aug, W_call, W_B, RtN_rt, RtN_nx, W_abs, W_intI, W_intB, W_noPart, W_part, W_sl, W_lm, W_lm0, W_iter, W_range1, W_range2, W_forE, W_revE, W_compE, W_yes, W_lenT, W_truB, W_truI, List.append_nil, List.getElem?_cons_zero, List.getElem?_cons_succ, List.set_cons_zero, List.set_cons_succ, List.getElem?_set_self, List.getElem?_set_ne, lt_set, ne_eq, Nat.reduceEqDiff, not_false_eq_true, Nat.reduceLT, Nat.zero_ne_one, Nat.one_ne_zero, Nat.lt_add_one, Nat.zero_lt_succ, startD, List.map_cons, List.map_nil, List.length_cons, List.length_nil, List.cons_append, List.nil_append, Nat.reduceAdd, Nat.reduceSub, Nat.zero_add, List.replicate_succ, List.replicate_zero, hl, s0, s2, s3, s4]
      refine ⟨.inr (by decide), ?_⟩
      try simp only [W_seq, W_asg, W_set, W_V, WV_some, W_C, W_op, W_cmpT, W_isB, W_un, W_tru, W_andT, W_orT, W_notT, W_andV, W_orV, W_notV, W_ife, W_nil, W_cons, W_tup, W_lst, W_addI, W_subI, W_iaddI, W_negI, W_mulI, W_fdivI, W_modI, W_powI, W_cmpI, W_isB_bl, W_isNB, W_isN, W_isntB, W_isntN, W_eqI, W_neI, W_pass, W_brk, W_cont, W_drop, W_rt, W_rtN, W_ifS, W_gsNil, W_gsCons, W_gTup, W_aug, W_call, W_B, RtN_rt, RtN_nx, W_abs, W_intI, W_intB, W_noPart, W_part, W_sl, W_lm, W_lm0, W_iter, W_range1, W_range2, W_forE, W_revE, W_compE, W_yes, W_lenT, W_truB, W_truI, List.append_nil, List.getElem?_cons_zero, List.getElem?_cons_succ, List.set_cons_zero, List.set_cons_succ, List.getElem?_set_self, List.getElem?_set_ne, lt_set, ne_eq, Nat.reduceEqDiff, not_false_eq_true, Nat.reduceLT, Nat.zero_ne_one, Nat.one_ne_zero, Nat.lt_add_one, Nat.zero_lt_succ, startD, List.map_cons, List.map_nil, List.length_cons, List.length_nil, List.cons_append, List.nil_append, Nat.reduceAdd, Nat.reduceSub, Nat.zero_add, List.replicate_succ, List.replicate_zero, hl, s0, s2, s3, s4]
      refine ⟨by decide, ?_⟩
      try simp only [W_seq, W_asg, W_set, W_V, WV_some, W_C, W_op, W_cmpT, W_isB, W_un, W_tru, W_andT, W_orT, W_notT, W_andV, W_orV, W_notV, W_ife, W_nil, W_cons, W_tup, W_lst, W_addI, W_subI, W_iaddI, W_negI, W_mulI, W_fdivI, W_modI, W_powI, W_cmpI, W_isB_bl, W_isNB, W_isN, W_isntB, W_isntN, W_eqI, W_neI, W_pass, W_brk, W_cont, W_drop, W_rt, W_rtN, W_ifS, W_gsNil, W_gsCons, W_gTup, W_aug, W_call, W_B, RtN_rt, RtN_nx, W_abs, W_intI, W_intB, W_noPart, W_part, W_sl, W_lm, W_lm0, W_iter, W_range1, W_range2, W_forE, W_revE, W_compE, W_yes, W_lenT, W_truB, W_truI, List.append_nil, List.getElem?_cons_zero, List.getElem?_cons_succ, List.set_cons_zero, List.set_cons_succ, List.getElem?_set_self, List.getElem?_set_ne, lt_set, ne_eq, Nat.reduceEqDiff, not_false_eq_true, Nat.reduceLT, Nat.zero_ne_one, Nat.one_ne_zero, Nat.lt_add_one, Nat.zero_lt_succ, startD, List.map_cons, List.map_nil, List.length_cons, List.length_nil, List.cons_append, List.nil_append, Nat.reduceAdd, Nat.reduceSub, Nat.zero_add, List.replicate_succ, List.replicate_zero, hl, s0, s2, s3, s4]
      refine ⟨.inl (by decide), ?_⟩
      try simp only [W_seq, W_asg, W_set, W_V, WV_some, W_C, W_op, W_cmpT, W_isB, W_un, W_tru, W_andT, W_orT, W_notT, W_andV, W_orV, W_notV, W_ife, W_nil, W_cons, W_tup, W_lst, W_addI, W_subI, W_iaddI, W_negI, W_mulI, W_fdivI, W_modI, W_powI, W_cmpI, W_isB_bl, W_isNB, W_isN, W_isntB, W_isntN, W_eqI, W_neI, W_pass, W_brk, W_cont, W_drop, W_rt, W_rtN, W_ifS, W_gsNil, W_gsCons, W_gTup, W_aug, W_call, W_B, RtN_rt, RtN_nx, W_abs, W_intI, W_intB, W_noPart, W_part, W_sl, W_lm, W_lm0, W_iter, W_range1, W_range2, W_forE, W_revE, W_compE, W_yes, W_lenT, W_truB, W_truI, List.append_nil, List.getElem?_cons_zero, List.getElem?_cons_succ, List.set_cons_zero, List.set_cons_succ, List.getElem?_set_self, List.getElem?_set_ne, lt_set, ne_eq, Nat.reduceEqDiff, not_false_eq_true, Nat.reduceLT, Nat.zero_ne_one, Nat.one_ne_zero, Nat.lt_add_one, Nat.zero_lt_succ, startD, List.map_cons, List.map_nil, List.length_cons, List.length_nil, List.cons_append, List.nil_append, Nat.reduceAdd, Nat.reduceSub, Nat.zero_add, List.replicate_succ, List.replicate_zero, hl, s0, s2, s3, s4]
      refine ⟨by decide, ?_⟩
      try simp only [W_seq, W_asg, W_set, W_V, WV_some, W_C, W_op, W_cmpT, W_isB, W_un, W_tru, W_andT, W_orT, W_notT, W_andV, W_orV, W_notV, W_ife, W_nil, W_cons, W_tup, W_lst, W_addI, W_subI, W_iaddI, W_negI, W_mulI, W_fdivI, W_modI, W_powI, W_cmpI, W_isB_bl, W_isNB, W_isN, W_isntB, W_isntN, W_eqI, W_neI, W_pass, W_brk, W_cont, W_drop, W_rt, W_rtN, W_ifS, W_gsNil, W_gsCons, W_gTup, W_aug, W_call, W_B, RtN_rt, RtN_nx, W_abs, W_intI, W_intB, W_noPart, W_part, W_sl, W_lm, W_lm0, W_iter, W_range1, W_range2, W_forE, W_revE, W_compE, W_yes, W_lenT, W_truB, W_truI, List.append_nil, List.getElem?_cons_zero, List.getElem?_cons_succ, List.set_cons_zero, List.set_cons_succ, List.getElem?_set_self, List.getElem?_set_ne, lt_set, ne_eq, Nat.reduceEqDiff, not_false_eq_true, Nat.reduceLT, Nat.zero_ne_one, Nat.one_ne_zero, Nat.lt_add_one, Nat.zero_lt_succ, startD, List.map_cons, List.map_nil, List.length_cons, List.length_nil, List.cons_append, List.nil_append, Nat.reduceAdd, Nat.reduceSub, Nat.zero_add, List.replicate_succ, List.replicate_zero, hl, s0, s2, s3, s4]
      refine ⟨_, rfl, by omega, ?_⟩
      refine w_forR (fun j σ h => σ.length = 9 ∧ σ[0]? = some (some (.ref 0)) ∧ σ[2]? = some (some (.int each)) ∧ σ[3]? = some (some (.ref 1)) ∧ (∃ s : Int, σ[4]? = some (some (.int s))) ∧ (∃ s : Int, σ[7]? = some (some (.int s))) ∧ h[0]? = some (.ro (ns.map D.int)) ∧ ∃ xs : List Int, h[1]? = some (.lst (xs.map D.int)) ∧ xs.length ≤ k * each.toNat + j) ⟨by simp [hl], by simp [s0], by simp [s2], by simp [s3], ⟨_, by simp [hl]; rfl⟩, ⟨_, by simp [hl]; rfl⟩, c0, xs, c1, by omega⟩ ?_ ?_
      · rintro j σ h hj ⟨hl, s0, s2, s3, ⟨s, s4⟩, ⟨r, s7⟩, c0, xs, c1, lx⟩
        unfold Turn L__law_deck_0
        try simp only [W_seq, W_asg, W_set, W_V, WV_some, W_C, W_op, W_cmpT, W_isB, W_un, W_tru, W_andT, W_orT, W_notT, W_andV, W_orV, W_notV, W_ife, W_nil, W_cons, W_tup, W_lst, W_addI, W_subI, W_iaddI, W_negI, W_mulI, W_fdivI, W_modI, W_powI, W_cmpI, W_isB_bl, W_isNB, W_isN, W_isntB, W_isntN, W_eqI, W_neI, W_pass, W_brk, W_cont, W_drop, W_rt, W_rtN, W_ifS, W_gsNil, W_gsCons, W_gTup, W_aug, W_call, W_B, RtN_rt, RtN_nx, W_abs, W_intI, W_intB, W_noPart, W_part, W_sl, W_lm, W_lm0, W_iter, W_range1, W_range2, W_forE, W_revE, W_compE, W_yes, W_lenT, W_truB, W_truI, List.append_nil, List.getElem?_cons_zero, List.getElem?_cons_succ, List.set_cons_zero, List.set_cons_succ, List.getElem?_set_self, List.getElem?_set_ne, lt_set, ne_eq, Nat.reduceEqDiff, not_false_eq_true, Nat.reduceLT, Nat.zero_ne_one, Nat.one_ne_zero, Nat.lt_add_one, Nat.zero_lt_succ, startD, List.map_cons, List.map_nil, List.length_cons, List.length_nil, List.cons_append, List.nil_append, Nat.reduceAdd, Nat.reduceSub, Nat.zero_add, List.replicate_succ, List.replicate_zero, hl, s0, s2, s3, s4, s7]
        refine ⟨.inr (by decide), ?_⟩
        try simp only [W_seq, W_asg, W_set, W_V, WV_some, W_C, W_op, W_cmpT, W_isB, W_un, W_tru, W_andT, W_orT, W_notT, W_andV, W_orV, W_notV, W_ife, W_nil, W_cons, W_tup, W_lst, W_addI, W_subI, W_iaddI, W_negI, W_mulI, W_fdivI, W_modI, W_powI, W_cmpI, W_isB_bl, W_isNB, W_isN, W_isntB, W_isntN, W_eqI, W_neI, W_pass, W_brk, W_cont, W_drop, W_rt, W_rtN, W_ifS, W_gsNil, W_gsCons, W_gTup, W_aug, W_call, W_B, RtN_rt, RtN_nx, W_abs, W_intI, W_intB, W_noPart, W_part, W_sl, W_lm, W_lm0, W_iter, W_range1, W_range2, W_forE, W_revE, W_compE, W_yes, W_lenT, W_truB, W_truI, List.append_nil, List.getElem?_cons_zero, List.getElem?_cons_succ, List.set_cons_zero, List.set_cons_succ, List.getElem?_set_self, List.getElem?_set_ne, lt_set, ne_eq, Nat.reduceEqDiff, not_false_eq_true, Nat.reduceLT, Nat.zero_ne_one, Nat.one_ne_zero, Nat.lt_add_one, Nat.zero_lt_succ, startD, List.map_cons, List.map_nil, List.length_cons, List.length_nil, List.cons_append, List.nil_append, Nat.reduceAdd, Nat.reduceSub, Nat.zero_add, List.replicate_succ, List.replicate_zero, hl, s0, s2, s3, s4, s7]
        refine ⟨by decide, ?_⟩
        try simp only [W_seq, W_asg, W_set, W_V, WV_some, W_C, W_op, W_cmpT, W_isB, W_un, W_tru, W_andT, W_orT, W_notT, W_andV, W_orV, W_notV, W_ife, W_nil, W_cons, W_tup, W_lst, W_addI, W_subI, W_iaddI, W_negI, W_mulI, W_fdivI, W_modI, W_powI, W_cmpI, W_isB_bl, W_isNB, W_isN, W_isntB, W_isntN, W_eqI, W_neI, W_pass, W_brk, W_cont, W_drop, W_rt, W_rtN, W_ifS, W_gsNil, W_gsCons, W_gTup, W_aug, W_call, W_B, RtN_rt, RtN_nx, W_abs, W_intI, W_intB, W_noPart, W_part, W_sl, W_lm, W_lm0, W_iter, W_range1, W_range2, W_forE, W_revE, W_compE, W_yes, W_lenT, W_truB, W_truI, List.append_nil, List.getElem?_cons_zero, List.getElem?_cons_succ, List.set_cons_zero, List.set_cons_succ, List.getElem?_set_self, List.getElem?_set_ne, lt_set, ne_eq, Nat.reduceEqDiff, not_false_eq_true, Nat.reduceLT, Nat.zero_ne_one, Nat.one_ne_zero, Nat.lt_add_one, Nat.zero_lt_succ, startD, List.map_cons, List.map_nil, List.length_cons, List.length_nil, List.cons_append, List.nil_append, Nat.reduceAdd, Nat.reduceSub, Nat.zero_add, List.replicate_succ, List.replicate_zero, hl, s0, s2, s3, s4, s7]
        rw [W_isLst c1]
        try simp only [W_seq, W_asg, W_set, W_V, WV_some, W_C, W_op, W_cmpT, W_isB, W_un, W_tru, W_andT, W_orT, W_notT, W_andV, W_orV, W_notV, W_ife, W_nil, W_cons, W_tup, W_lst, W_addI, W_subI, W_iaddI, W_negI, W_mulI, W_fdivI, W_modI, W_powI, W_cmpI, W_isB_bl, W_isNB, W_isN, W_isntB, W_isntN, W_eqI, W_neI, W_pass, W_brk, W_cont, W_drop, W_rt, W_rtN, W_ifS, W_gsNil, W_gsCons, W_gTup, W_aug, W_call, W_B, RtN_rt, RtN_nx, W_abs, W_intI, W_intB, W_noPart, W_part, W_sl, W_lm, W_lm0, W_iter, W_range1, W_range2, W_forE, W_revE, W_compE, W_yes, W_lenT, W_truB, W_truI, List.append_nil, List.getElem?_cons_zero, List.getElem?_cons_succ, List.set_cons_zero, List.set_cons_succ, List.getElem?_set_self, List.getElem?_set_ne, lt_set, ne_eq, Nat.reduceEqDiff, not_false_eq_true, Nat.reduceLT, Nat.zero_ne_one, Nat.one_ne_zero, Nat.lt_add_one, Nat.zero_lt_succ, startD, List.map_cons, List.map_nil, List.length_cons, List.length_nil, List.cons_append, List.nil_append, Nat.reduceAdd, Nat.reduceSub, Nat.zero_add, List.replicate_succ, List.replicate_zero, hl, s0, s2, s3, s4, s7]
        refine ⟨by decide, ?_⟩
        try simp only [W_seq, W_asg, W_set, W_V, WV_some, W_C, W_op, W_cmpT, W_isB, W_un, W_tru, W_andT, W_orT, W_notT, W_andV, W_orV, W_notV, W_ife, W_nil, W_cons, W_tup, W_lst, W_addI, W_subI, W_iaddI, W_negI, W_mulI, W_fdivI, W_modI, W_powI, W_cmpI, W_isB_bl, W_isNB, W_isN, W_isntB, W_isntN, W_eqI, W_neI, W_pass, W_brk, W_cont, W_drop, W_rt, W_rtN, W_ifS, W_gsNil, W_gsCons, W_gTup, W_aug, W_call, W_B, RtN_rt, RtN_nx, W_abs, W_intI, W_intB, W_noPart, W_part, W_sl, W_lm, W_lm0, W_iter, W_range1, W_range2, W_forE, W_revE, W_compE, W_yes, W_lenT, W_truB, W_truI, List.append_nil, List.getElem?_cons_zero, List.getElem?_cons_succ, List.set_cons_zero, List.set_cons_succ, List.getElem?_set_self, List.getElem?_set_ne, lt_set, ne_eq, Nat.reduceEqDiff, not_false_eq_true, Nat.reduceLT, Nat.zero_ne_one, Nat.one_ne_zero, Nat.lt_add_one, Nat.zero_lt_succ, startD, List.map_cons, List.map_nil, List.length_cons, List.length_nil, List.cons_append, List.nil_append, Nat.reduceAdd, Nat.reduceSub, Nat.zero_add, List.replicate_succ, List.replicate_zero, hl, s0, s2, s3, s4, s7]
        refine ⟨by decide, ?_⟩
        try simp only [W_seq, W_asg, W_set, W_V, WV_some, W_C, W_op, W_cmpT, W_isB, W_un, W_tru, W_andT, W_orT, W_notT, W_andV, W_orV, W_notV, W_ife, W_nil, W_cons, W_tup, W_lst, W_addI, W_subI, W_iaddI, W_negI, W_mulI, W_fdivI, W_modI, W_powI, W_cmpI, W_isB_bl, W_isNB, W_isN, W_isntB, W_isntN, W_eqI, W_neI, W_pass, W_brk, W_cont, W_drop, W_rt, W_rtN, W_ifS, W_gsNil, W_gsCons, W_gTup, W_aug, W_call, W_B, RtN_rt, RtN_nx, W_abs, W_intI, W_intB, W_noPart, W_part, W_sl, W_lm, W_lm0, W_iter, W_range1, W_range2, W_forE, W_revE, W_compE, W_yes, W_lenT, W_truB, W_truI, List.append_nil, List.getElem?_cons_zero, List.getElem?_cons_succ, List.set_cons_zero, List.set_cons_succ, List.getElem?_set_self, List.getElem?_set_ne, lt_set, ne_eq, Nat.reduceEqDiff, not_false_eq_true, Nat.reduceLT, Nat.zero_ne_one, Nat.one_ne_zero, Nat.lt_add_one, Nat.zero_lt_succ, startD, List.map_cons, List.map_nil, List.length_cons, List.length_nil, List.cons_append, List.nil_append, Nat.reduceAdd, Nat.reduceSub, Nat.zero_add, List.replicate_succ, List.replicate_zero, hl, s0, s2, s3, s4, s7]
        obtain ⟨v, hv⟩ : ∃ v : Int, L2.atI ([.int ((s * 69621 + (0 + (j : Int)) + 1) % 2147483629 / 7), .int r] : List D) (if decide (0 < r) = true then 1 else 0) = some (.int v) := by
          split
          · exact ⟨_, rfl⟩
          · exact ⟨_, rfl⟩
        rw [W_ixL get_push hv]
        try simp only [W_seq, W_asg, W_set, W_V, WV_some, W_C, W_op, W_cmpT, W_isB, W_un, W_tru, W_andT, W_orT, W_notT, W_andV, W_orV, W_notV, W_ife, W_nil, W_cons, W_tup, W_lst, W_addI, W_subI, W_iaddI, W_negI, W_mulI, W_fdivI, W_modI, W_powI, W_cmpI, W_isB_bl, W_isNB, W_isN, W_isntB, W_isntN, W_eqI, W_neI, W_pass, W_brk, W_cont, W_drop, W_rt, W_rtN, W_ifS, W_gsNil, W_gsCons, W_gTup, W_aug, W_call, W_B, RtN_rt, RtN_nx, W_abs, W_intI, W_intB, W_noPart, W_part, W_sl, W_lm, W_lm0, W_iter, W_range1, W_range2, W_forE, W_revE, W_compE, W_yes, W_lenT, W_truB, W_truI, List.append_nil, List.getElem?_cons_zero, List.getElem?_cons_succ, List.set_cons_zero, List.set_cons_succ, List.getElem?_set_self, List.getElem?_set_ne, lt_set, ne_eq, Nat.reduceEqDiff, not_false_eq_true, Nat.reduceLT, Nat.zero_ne_one, Nat.one_ne_zero, Nat.lt_add_one, Nat.zero_lt_succ, startD, List.map_cons, List.map_nil, List.length_cons, List.length_nil, List.cons_append, List.nil_append, Nat.reduceAdd, Nat.reduceSub, Nat.zero_add, List.replicate_succ, List.replicate_zero, hl, s0, s2, s3, s4, s7]
        refine ⟨by decide, ?_⟩
        have hkk : (k + 1) * each.toNat ≤ 900 * 900 := Nat.mul_le_mul (by omega) (by omega)
        rw [Nat.succ_mul] at hkk
        rw [W_app (get_pushL c1) (by show _ < 1000000; simp; omega)]
        try simp only [W_seq, W_asg, W_set, W_V, WV_some, W_C, W_op, W_cmpT, W_isB, W_un, W_tru, W_andT, W_orT, W_notT, W_andV, W_orV, W_notV, W_ife, W_nil, W_cons, W_tup, W_lst, W_addI, W_subI, W_iaddI, W_negI, W_mulI, W_fdivI, W_modI, W_powI, W_cmpI, W_isB_bl, W_isNB, W_isN, W_isntB, W_isntN, W_eqI, W_neI, W_pass, W_brk, W_cont, W_drop, W_rt, W_rtN, W_ifS, W_gsNil, W_gsCons, W_gTup, W_aug, W_call, W_B, RtN_rt, RtN_nx, W_abs, W_intI, W_intB, W_noPart, W_part, W_sl, W_lm, W_lm0, W_iter, W_range1, W_range2, W_forE, W_revE, W_compE, W_yes, W_lenT, W_truB, W_truI, List.append_nil, List.getElem?_cons_zero, List.getElem?_cons_succ, List.set_cons_zero, List.set_cons_succ, List.getElem?_set_self, List.getElem?_set_ne, lt_set, ne_eq, Nat.reduceEqDiff, not_false_eq_true, Nat.reduceLT, Nat.zero_ne_one, Nat.one_ne_zero, Nat.lt_add_one, Nat.zero_lt_succ, startD, List.map_cons, List.map_nil, List.length_cons, List.length_nil, List.cons_append, List.nil_append, Nat.reduceAdd, Nat.reduceSub, Nat.zero_add, List.replicate_succ, List.replicate_zero, hl, s0, s2, s3, s4, s7]
        refine ⟨by decide, ?_⟩
        refine ⟨by simp [hl], by simp [s0], by simp [s2], by simp [s3], ⟨_, by simp [hl]; rfl⟩, ⟨_, by simp [hl]; rfl⟩, ?_, xs ++ [v % 1000003], ?_, by simp; omega⟩
        · first | exact get_pushL c0 | (rw [List.getElem?_set_ne (by decide)]; exact get_pushL c0)
        · rw [get_set (get_pushL c1)]; simp
      · rintro σ h ⟨hl, s0, s2, s3, s4, _, c0, xs, c1, lx⟩
        exact hQ _ _ ⟨hl, s0, s2, s3, s4, c0, xs, c1, by rw [Nat.succ_mul]; exact lx⟩
    try simp only [W_seq, W_asg, W_set, W_V, WV_some, W_C, W_op, W_cmpT, W_isB, W_un, W_tru, W_andT, W_orT, W_notT, W_andV, W_orV, W_notV, W_ife, W_nil, W_cons, W_tup, W_lst, W_addI, W_subI, W_iaddI, W_negI, W_mulI, W_fdivI, W_modI, W_powI, W_cmpI, W_isB_bl, W_isNB, W_isN, W_isntB, W_isntN, W_eqI, W_neI, W_pass, W_brk, W_cont, W_drop, W_rt, W_rtN, W_ifS, W_gsNil, W_gsCons, W_gTup, W_aug, W_call, W_B, RtN_rt, RtN_nx, W_abs, W_intI, W_intB, W_noPart, W_part, W_sl, W_lm, W_lm0, W_iter, W_range1, W_range2, W_forE, W_revE, W_compE, W_yes, W_lenT, W_truB, W_truI, List.append_nil, List.getElem?_cons_zero, List.getElem?_cons_succ, List.set_cons_zero, List.set_cons_succ, List.getElem?_set_self, List.getElem?_set_ne, lt_set, ne_eq, Nat.reduceEqDiff, not_false_eq_true, Nat.reduceLT, Nat.zero_ne_one, Nat.one_ne_zero, Nat.lt_add_one, Nat.zero_lt_succ, startD, List.map_cons, List.map_nil, List.length_cons, List.length_nil, List.cons_append, List.nil_append, Nat.reduceAdd, Nat.reduceSub, Nat.zero_add, List.replicate_succ, List.replicate_zero, hl, s0, s2, s3, s4]
    rw [W_lenR c0]
    try simp only [W_seq, W_asg, W_set, W_V, WV_some, W_C, W_op, W_cmpT, W_isB, W_un, W_tru, W_andT, W_orT, W_notT, W_andV, W_orV, W_notV, W_ife, W_nil, W_cons, W_tup, W_lst, W_addI, W_subI, W_iaddI, W_negI, W_mulI, W_fdivI, W_modI, W_powI, W_cmpI, W_isB_bl, W_isNB, W_isN, W_isntB, W_isntN, W_eqI, W_neI, W_pass, W_brk, W_cont, W_drop, W_rt, W_rtN, W_ifS, W_gsNil, W_gsCons, W_gTup, W_aug, W_call, W_B, RtN_rt, RtN_nx, W_abs, W_intI, W_intB, W_noPart, W_part, W_sl, W_lm, W_lm0, W_iter, W_range1, W_range2, W_forE, W_revE, W_compE, W_yes, W_lenT, W_truB, W_truI, List.append_nil, List.getElem?_cons_zero, List.getElem?_cons_succ, List.set_cons_zero, List.set_cons_succ, List.getElem?_set_self, List.getElem?_set_ne, lt_set, ne_eq, Nat.reduceEqDiff, not_false_eq_true, Nat.reduceLT, Nat.zero_ne_one, Nat.one_ne_zero, Nat.lt_add_one, Nat.zero_lt_succ, startD, List.map_cons, List.map_nil, List.length_cons, List.length_nil, List.cons_append, List.nil_append, Nat.reduceAdd, Nat.reduceSub, Nat.zero_add, List.replicate_succ, List.replicate_zero, hl, s0, s2, s3, s4]
    by_cases c : (0 : Int) + (k : Int) < ((ns.map D.int).length : Nat)
    · have ck : k < ns.length := by simp at c; omega
      simp only [c, decide_true, if_true, W_seq, W_asg, W_set, W_V, WV_some, W_C, W_op, W_cmpT, W_isB, W_un, W_tru, W_andT, W_orT, W_notT, W_andV, W_orV, W_notV, W_ife, W_nil, W_cons, W_tup, W_lst, W_addI, W_subI, W_iaddI, W_negI, W_mulI, W_fdivI, W_modI, W_powI, W_cmpI, W_isB_bl, W_isNB, W_isN, W_isntB, W_isntN, W_eqI, W_neI, W_pass, W_brk, W_cont, W_drop, W_rt, W_rtN, W_ifS, W_gsNil, W_gsCons, W_gTup, W_aug, W_call, W_B, RtN_rt, RtN_nx, W_abs, W_intI, W_intB, W_noPart, W_part, W_sl, W_lm, W_lm0, W_iter, W_range1, W_range2, W_forE, W_revE, W_compE, W_yes, W_lenT, W_truB, W_truI, List.append_nil, List.getElem?_cons_zero, List.getElem?_cons_succ, List.set_cons_zero, List.set_cons_succ, List.getElem?_set_self, List.getElem?_set_ne, lt_set, ne_eq, Nat.reduceEqDiff, not_false_eq_true, Nat.reduceLT, Nat.zero_ne_one, Nat.one_ne_zero, Nat.lt_add_one, Nat.zero_lt_succ, startD, List.map_cons, List.map_nil, List.length_cons, List.length_nil, List.cons_append, List.nil_append, Nat.reduceAdd, Nat.reduceSub, Nat.zero_add, List.replicate_succ, List.replicate_zero, hl, s0, s2, s3, s4]
      rw [W_ixR c0 (d := .int ns[k]) (by rw [Int.zero_add]; exact L2.atI_nat (by simp [ck]))]
      try simp only [W_seq, W_asg, W_set, W_V, WV_some, W_C, W_op, W_cmpT, W_isB, W_un, W_tru, W_andT, W_orT, W_notT, W_andV, W_orV, W_notV, W_ife, W_nil, W_cons, W_tup, W_lst, W_addI, W_subI, W_iaddI, W_negI, W_mulI, W_fdivI, W_modI, W_powI, W_cmpI, W_isB_bl, W_isNB, W_isN, W_isntB, W_isntN, W_eqI, W_neI, W_pass, W_brk, W_cont, W_drop, W_rt, W_rtN, W_ifS, W_gsNil, W_gsCons, W_gTup, W_aug, W_call, W_B, RtN_rt, RtN_nx, W_abs, W_intI, W_intB, W_noPart, W_part, W_sl, W_lm, W_lm0, W_iter, W_range1, W_range2, W_forE, W_revE, W_compE, W_yes, W_lenT, W_truB, W_truI, List.append_nil, List.getElem?_cons_zero, List.getElem?_cons_succ, List.set_cons_zero, List.set_cons_succ, List.getElem?_set_self, List.getElem?_set_ne, lt_set, ne_eq, Nat.reduceEqDiff, not_false_eq_true, Nat.reduceLT, Nat.zero_ne_one, Nat.one_ne_zero, Nat.lt_add_one, Nat.zero_lt_succ, startD, List.map_cons, List.map_nil, List.length_cons, List.length_nil, List.cons_append, List.nil_append, Nat.reduceAdd, Nat.reduceSub, Nat.zero_add, List.replicate_succ, List.replicate_zero, hl, s0, s2, s3, s4]
      have := key ns[k]
      try simp only [W_seq, W_asg, W_set, W_V, WV_some, W_C, W_op, W_cmpT, W_isB, W_un, W_tru, W_andT, W_orT, W_notT, W_andV, W_orV, W_notV, W_ife, W_nil, W_cons, W_tup, W_lst, W_addI, W_subI, W_iaddI, W_negI, W_mulI, W_fdivI, W_modI, W_powI, W_cmpI, W_isB_bl, W_isNB, W_isN, W_isntB, W_isntN, W_eqI, W_neI, W_pass, W_brk, W_cont, W_drop, W_rt, W_rtN, W_ifS, W_gsNil, W_gsCons, W_gTup, W_aug, W_call, W_B, RtN_rt, RtN_nx, W_abs, W_intI, W_intB, W_noPart, W_part, W_sl, W_lm, W_lm0, W_iter, W_range1, W_range2, W_forE, W_revE, W_compE, W_yes, W_lenT, W_truB, W_truI, List.append_nil, List.getElem?_cons_zero, List.getElem?_cons_succ, List.set_cons_zero, List.set_cons_succ, List.getElem?_set_self, List.getElem?_set_ne, lt_set, ne_eq, Nat.reduceEqDiff, not_false_eq_true, Nat.reduceLT, Nat.zero_ne_one, Nat.one_ne_zero, Nat.lt_add_one, Nat.zero_lt_succ, startD, List.map_cons, List.map_nil, List.length_cons, List.length_nil, List.cons_append, List.nil_append, Nat.reduceAdd, Nat.reduceSub, Nat.zero_add, List.replicate_succ, List.replicate_zero, hl, s0, s2, s3, s4] at this
      exact this
    · simp only [c, decide_false, Bool.false_eq_true, if_false, W_seq, W_asg, W_set, W_V, WV_some, W_C, W_op, W_cmpT, W_isB, W_un, W_tru, W_andT, W_orT, W_notT, W_andV, W_orV, W_notV, W_ife, W_nil, W_cons, W_tup, W_lst, W_addI, W_subI, W_iaddI, W_negI, W_mulI, W_fdivI, W_modI, W_powI, W_cmpI, W_isB_bl, W_isNB, W_isN, W_isntB, W_isntN, W_eqI, W_neI, W_pass, W_brk, W_cont, W_drop, W_rt, W_rtN, W_ifS, W_gsNil, W_gsCons, W_gTup, W_aug, W_call, W_B, RtN_rt, RtN_nx, W_abs, W_intI, W_intB, W_noPart, W_part, W_sl, W_lm, W_lm0, W_iter, W_range1, W_range2, W_forE, W_revE, W_compE, W_yes, W_lenT, W_truB, W_truI, List.append_nil, List.getElem?_cons_zero, List.getElem?_cons_succ, List.set_cons_zero, List.set_cons_succ, List.getElem?_set_self, List.getElem?_set_ne, lt_set, ne_eq, Nat.reduceEqDiff, not_false_eq_true, Nat.reduceLT, Nat.zero_ne_one, Nat.one_ne_zero, Nat.lt_add_one, Nat.zero_lt_succ, startD, List.map_cons, List.map_nil, List.length_cons, List.length_nil, List.cons_append, List.nil_append, Nat.reduceAdd, Nat.reduceSub, Nat.zero_add, List.replicate_succ, List.replicate_zero, hl, s0, s2, s3, s4]
      have := key 0
      try simp only [W_seq, W_asg, W_set, W_V, WV_some, W_C, W_op, W_cmpT, W_isB, W_un, W_tru, W_andT, W_orT, W_notT, W_andV, W_orV, W_notV, W_ife, W_nil, W_cons, W_tup, W_lst, W_addI, W_subI, W_iaddI, W_negI, W_mulI, W_fdivI, W_modI, W_powI, W_cmpI, W_isB_bl, W_isNB, W_isN, W_isntB, W_isntN, W_eqI, W_neI, W_pass, W_brk, W_cont, W_drop, W_rt, W_rtN, W_ifS, W_gsNil, W_gsCons, W_gTup, W_aug, W_call, W_B, RtN_rt, RtN_nx, W_abs, W_intI, W_intB, W_noPart, W_part, W_sl, W_lm, W_lm0, W_iter, W_range1, W_range2, W_forE, W_revE, W_compE, W_yes, W_lenT, W_truB, W_truI, List.append_nil, List.getElem?_cons_zero, List.getElem?_cons_succ, List.set_cons_zero, List.set_cons_succ, List.getElem?_set_self, List.getElem?_set_ne, lt_set, ne_eq, Nat.reduceEqDiff, not_false_eq_true, Nat.reduceLT, Nat.zero_ne_one, Nat.one_ne_zero, Nat.lt_add_one, Nat.zero_lt_succ, startD, List.map_cons, List.map_nil, List.length_cons, List.length_nil, List.cons_append, List.nil_append, Nat.reduceAdd, Nat.reduceSub, Nat.zero_add, List.replicate_succ, List.replicate_zero, hl, s0, s2, s3, s4] at this
      exact this
  · rintro σ h ⟨hl, s0, s2, s3, s4, c0, xs, c1, lx⟩
    try simp only [W_seq, W_asg, W_set, W_V, WV_some, W_C, W_op, W_cmpT, W_isB, W_un, W_tru, W_andT, W_orT, W_notT, W_andV, W_orV, W_notV, W_ife, W_nil, W_cons, W_tup, W_lst, W_addI, W_subI, W_iaddI, W_negI, W_mulI, W_fdivI, W_modI, W_powI, W_cmpI, W_isB_bl, W_isNB, W_isN, W_isntB, W_isntN, W_eqI, W_neI, W_pass, W_brk, W_cont, W_drop, W_rt, W_rtN, W_ifS, W_gsNil, W_gsCons, W_gTup, W_aug, W_call, W_B, RtN_rt, RtN_nx, W_abs, W_intI, W_intB, W_noPart, W_part, W_sl, W_lm, W_lm0, W_iter, W_range1, W_range2, W_forE, W_revE, W_compE, W_yes, W_lenT, W_truB, W_truI, List.append_nil, List.getElem?_cons_zero, List.getElem?_cons_succ, List.set_cons_zero, List.set_cons_succ, List.getElem?_set_self, List.getElem?_set_ne, lt_set, ne_eq, Nat.reduceEqDiff, not_false_eq_true, Nat.reduceLT, Nat.zero_ne_one, Nat.one_ne_zero, Nat.lt_add_one, Nat.zero_lt_succ, startD, List.map_cons, List.map_nil, List.length_cons, List.length_nil, List.cons_append, List.nil_append, Nat.reduceAdd, Nat.reduceSub, Nat.zero_add, List.replicate_succ, List.replicate_zero, hl, s0, s2, s3]
    rw [W_isLst c1]
    try simp only [W_seq, W_asg, W_set, W_V, WV_some, W_C, W_op, W_cmpT, W_isB, W_un, W_tru, W_andT, W_orT, W_notT, W_andV, W_orV, W_notV, W_ife, W_nil, W_cons, W_tup, W_lst, W_addI, W_subI, W_iaddI, W_negI, W_mulI, W_fdivI, W_modI, W_powI, W_cmpI, W_isB_bl, W_isNB, W_isN, W_isntB, W_isntN, W_eqI, W_neI, W_pass, W_brk, W_cont, W_drop, W_rt, W_rtN, W_ifS, W_gsNil, W_gsCons, W_gTup, W_aug, W_call, W_B, RtN_rt, RtN_nx, W_abs, W_intI, W_intB, W_noPart, W_part, W_sl, W_lm, W_lm0, W_iter, W_range1, W_range2, W_forE, W_revE, W_compE, W_yes, W_lenT, W_truB, W_truI, List.append_nil, List.getElem?_cons_zero, List.getElem?_cons_succ, List.set_cons_zero, List.set_cons_succ, List.getElem?_set_self, List.getElem?_set_ne, lt_set, ne_eq, Nat.reduceEqDiff, not_false_eq_true, Nat.reduceLT, Nat.zero_ne_one, Nat.one_ne_zero, Nat.lt_add_one, Nat.zero_lt_succ, startD, List.map_cons, List.map_nil, List.length_cons, List.length_nil, List.cons_append, List.nil_append, Nat.reduceAdd, Nat.reduceSub, Nat.zero_add, List.replicate_succ, List.replicate_zero]
    rw [W_rev c1]
    try simp only [W_seq, W_asg, W_set, W_V, WV_some, W_C, W_op, W_cmpT, W_isB, W_un, W_tru, W_andT, W_orT, W_notT, W_andV, W_orV, W_notV, W_ife, W_nil, W_cons, W_tup, W_lst, W_addI, W_subI, W_iaddI, W_negI, W_mulI, W_fdivI, W_modI, W_powI, W_cmpI, W_isB_bl, W_isNB, W_isN, W_isntB, W_isntN, W_eqI, W_neI, W_pass, W_brk, W_cont, W_drop, W_rt, W_rtN, W_ifS, W_gsNil, W_gsCons, W_gTup, W_aug, W_call, W_B, RtN_rt, RtN_nx, W_abs, W_intI, W_intB, W_noPart, W_part, W_sl, W_lm, W_lm0, W_iter, W_range1, W_range2, W_forE, W_revE, W_compE, W_yes, W_lenT, W_truB, W_truI, List.append_nil, List.getElem?_cons_zero, List.getElem?_cons_succ, List.set_cons_zero, List.set_cons_succ, List.getElem?_set_self, List.getElem?_set_ne, lt_set, ne_eq, Nat.reduceEqDiff, not_false_eq_true, Nat.reduceLT, Nat.zero_ne_one, Nat.one_ne_zero, Nat.lt_add_one, Nat.zero_lt_succ, startD, List.map_cons, List.map_nil, List.length_cons, List.length_nil, List.cons_append, List.nil_append, Nat.reduceAdd, Nat.reduceSub, Nat.zero_add, List.replicate_succ, List.replicate_zero, s3]
    exact q _ ⟨xs.reverse, by rw [get_set c1]; simp⟩ (by rw [List.getElem?_set_ne (by decide)]; exact c0)
theorem take_law {h : Hd} {m : Int} (hd : Dk h) (hm : 0 < m) {QQ : D → Hd → Prop} (q : ∀ (v : Int) (h' : Hd), 0 ≤ v → v < m → Fr [] h h' → Dk h' → QQ (.int v) h') : W (F__law_take [.ref 1, .int m]) h QQ := by
  unfold F__law_take B__law_take
  refine w_run rfl ?_
  obtain ⟨ns, e⟩ := hd
  try simp only [W_seq, W_asg, W_set, W_V, WV_some, W_C, W_op, W_cmpT, W_isB, W_un, W_tru, W_andT, W_orT, W_notT, W_andV, W_orV, W_notV, W_ife, W_nil, W_cons, W_tup, W_lst, W_addI, W_subI, W_iaddI, W_negI, W_mulI, W_fdivI, W_modI, W_powI, W_cmpI, W_isB_bl, W_isNB, W_isN, W_isntB, W_isntN, W_eqI, W_neI, W_pass, W_brk, W_cont, W_drop, W_rt, W_rtN, W_ifS, W_gsNil, W_gsCons, W_gTup, W_aug, W_call, W_B, RtN_rt, RtN_nx, W_abs, W_intI, W_intB, W_noPart, W_part, W_sl, W_lm, W_lm0, W_iter, W_range1, W_range2, W_forE, W_revE, W_compE, W_yes, W_lenT, W_truB, W_truI, List.append_nil, List.getElem?_cons_zero, List.getElem?_cons_succ, List.set_cons_zero, List.set_cons_succ, List.getElem?_set_self, List.getElem?_set_ne, lt_set, ne_eq, Nat.reduceEqDiff, not_false_eq_true, Nat.reduceLT, Nat.zero_ne_one, Nat.one_ne_zero, Nat.lt_add_one, Nat.zero_lt_succ, startD, List.map_cons, List.map_nil, List.length_cons, List.length_nil, List.cons_append, List.nil_append, Nat.reduceAdd, Nat.reduceSub, Nat.zero_add, List.replicate_succ, List.replicate_zero]
  rw [W_lenL e]
  try simp only [W_seq, W_asg, W_set, W_V, WV_some, W_C, W_op, W_cmpT, W_isB, W_un, W_tru, W_andT, W_orT, W_notT, W_andV, W_orV, W_notV, W_ife, W_nil, W_cons, W_tup, W_lst, W_addI, W_subI, W_iaddI, W_negI, W_mulI, W_fdivI, W_modI, W_powI, W_cmpI, W_isB_bl, W_isNB, W_isN, W_isntB, W_isntN, W_eqI, W_neI, W_pass, W_brk, W_cont, W_drop, W_rt, W_rtN, W_ifS, W_gsNil, W_gsCons, W_gTup, W_aug, W_call, W_B, RtN_rt, RtN_nx, W_abs, W_intI, W_intB, W_noPart, W_part, W_sl, W_lm, W_lm0, W_iter, W_range1, W_range2, W_forE, W_revE, W_compE, W_yes, W_lenT, W_truB, W_truI, List.append_nil, List.getElem?_cons_zero, List.getElem?_cons_succ, List.set_cons_zero, List.set_cons_succ, List.getElem?_set_self, List.getElem?_set_ne, lt_set, ne_eq, Nat.reduceEqDiff, not_false_eq_true, Nat.reduceLT, Nat.zero_ne_one, Nat.one_ne_zero, Nat.lt_add_one, Nat.zero_lt_succ, startD, List.map_cons, List.map_nil, List.length_cons, List.length_nil, List.cons_append, List.nil_append, Nat.reduceAdd, Nat.reduceSub, Nat.zero_add, List.replicate_succ, List.replicate_zero]
  by_cases c : (0 : Int) < ((ns.map D.int).length : Nat)
  · simp only [c, decide_true, if_true, W_seq, W_asg, W_set, W_V, WV_some, W_C, W_op, W_cmpT, W_isB, W_un, W_tru, W_andT, W_orT, W_notT, W_andV, W_orV, W_notV, W_ife, W_nil, W_cons, W_tup, W_lst, W_addI, W_subI, W_iaddI, W_negI, W_mulI, W_fdivI, W_modI, W_powI, W_cmpI, W_isB_bl, W_isNB, W_isN, W_isntB, W_isntN, W_eqI, W_neI, W_pass, W_brk, W_cont, W_drop, W_rt, W_rtN, W_ifS, W_gsNil, W_gsCons, W_gTup, W_aug, W_call, W_B, RtN_rt, RtN_nx, W_abs, W_intI, W_intB, W_noPart, W_part, W_sl, W_lm, W_lm0, W_iter, W_range1, W_range2, W_forE, W_revE, W_compE, W_yes, W_lenT, W_truB, W_truI, List.append_nil, List.getElem?_cons_zero, List.getElem?_cons_succ, List.set_cons_zero, List.set_cons_succ, List.getElem?_set_self, List.getElem?_set_ne, lt_set, ne_eq, Nat.reduceEqDiff, not_false_eq_true, Nat.reduceLT, Nat.zero_ne_one, Nat.one_ne_zero, Nat.lt_add_one, Nat.zero_lt_succ, startD, List.map_cons, List.map_nil, List.length_cons, List.length_nil, List.cons_append, List.nil_append, Nat.reduceAdd, Nat.reduceSub, Nat.zero_add, List.replicate_succ, List.replicate_zero]
    rw [W_isLst e]
    have cl : 0 < ns.length := by simpa using c
    have ep : popM (.ref 1) h = some (.int (ns[ns.length - 1]'(by omega)), h.set 1 (.lst (ns.map D.int).dropLast)) := by
      simp only [popM, e, List.length_map]
      rw [List.getElem?_eq_getElem (by simp; omega)]
      simp
    rw [W_some ep]
    try simp only [W_seq, W_asg, W_set, W_V, WV_some, W_C, W_op, W_cmpT, W_isB, W_un, W_tru, W_andT, W_orT, W_notT, W_andV, W_orV, W_notV, W_ife, W_nil, W_cons, W_tup, W_lst, W_addI, W_subI, W_iaddI, W_negI, W_mulI, W_fdivI, W_modI, W_powI, W_cmpI, W_isB_bl, W_isNB, W_isN, W_isntB, W_isntN, W_eqI, W_neI, W_pass, W_brk, W_cont, W_drop, W_rt, W_rtN, W_ifS, W_gsNil, W_gsCons, W_gTup, W_aug, W_call, W_B, RtN_rt, RtN_nx, W_abs, W_intI, W_intB, W_noPart, W_part, W_sl, W_lm, W_lm0, W_iter, W_range1, W_range2, W_forE, W_revE, W_compE, W_yes, W_lenT, W_truB, W_truI, List.append_nil, List.getElem?_cons_zero, List.getElem?_cons_succ, List.set_cons_zero, List.set_cons_succ, List.getElem?_set_self, List.getElem?_set_ne, lt_set, ne_eq, Nat.reduceEqDiff, not_false_eq_true, Nat.reduceLT, Nat.zero_ne_one, Nat.one_ne_zero, Nat.lt_add_one, Nat.zero_lt_succ, startD, List.map_cons, List.map_nil, List.length_cons, List.length_nil, List.cons_append, List.nil_append, Nat.reduceAdd, Nat.reduceSub, Nat.zero_add, List.replicate_succ, List.replicate_zero]
    refine ⟨hm, q _ _ (Int.emod_nonneg _ (by omega)) (Int.emod_lt_of_pos _ hm) ⟨by simp, fun i hi _ h1 => List.getElem?_set_ne (fun z => h1 z.symm), fun _ => ⟨ns.dropLast, ?_⟩⟩ ⟨ns.dropLast, ?_⟩⟩
    · rw [get_set e]; simp
    · rw [get_set e]; simp
  · simp only [c, decide_false, Bool.false_eq_true, if_false, W_seq, W_asg, W_set, W_V, WV_some, W_C, W_op, W_cmpT, W_isB, W_un, W_tru, W_andT, W_orT, W_notT, W_andV, W_orV, W_notV, W_ife, W_nil, W_cons, W_tup, W_lst, W_addI, W_subI, W_iaddI, W_negI, W_mulI, W_fdivI, W_modI, W_powI, W_cmpI, W_isB_bl, W_isNB, W_isN, W_isntB, W_isntN, W_eqI, W_neI, W_pass, W_brk, W_cont, W_drop, W_rt, W_rtN, W_ifS, W_gsNil, W_gsCons, W_gTup, W_aug, W_call, W_B, RtN_rt, RtN_nx, W_abs, W_intI, W_intB, W_noPart, W_part, W_sl, W_lm, W_lm0, W_iter, W_range1, W_range2, W_forE, W_revE, W_compE, W_yes, W_lenT, W_truB, W_truI, List.append_nil, List.getElem?_cons_zero, List.getElem?_cons_succ, List.set_cons_zero, List.set_cons_succ, List.getElem?_set_self, List.getElem?_set_ne, lt_set, ne_eq, Nat.reduceEqDiff, not_false_eq_true, Nat.reduceLT, Nat.zero_ne_one, Nat.one_ne_zero, Nat.lt_add_one, Nat.zero_lt_succ, startD, List.map_cons, List.map_nil, List.length_cons, List.length_nil, List.cons_append, List.nil_append, Nat.reduceAdd, Nat.reduceSub, Nat.zero_add, List.replicate_succ, List.replicate_zero]
    exact q 0 h (Int.le_refl _) hm .refl ⟨ns, e⟩
end Lk00

set_option Elab.async false
set_option linter.all false
set_option autoImplicit false
set_option maxRecDepth 100000
set_option maxHeartbeats 4000000
namespace Lk00
open Dt PySem
/-! ### _law_plain, _law_same -/
theorem plain_law {w : Nat} (hw : 1 ≤ w) (hwl : w ≤ 1000) : ∀ (n d : Nat) (x : D) (p : PyData) (h : Hd), Rp 2 w h d x p → d ≤ n → 1 < h.length → W (F__law_plain n [x]) h fun y h' => Fr [] h h' ∧ Rp h.length (w + 1) h' (d + 1) y (pl p) := by
  intro n
  induction n with
  | zero => intro d x p h r hd _; obtain rfl : d = 0 := Nat.le_zero.mp hd; exact r.elim
  | succ n ih =>
    intro d x p h r hd h1
    obtain ⟨d, rfl⟩ : ∃ e, d = e + 1 := by
      cases d with
      | zero => exact r.elim
      | succ d => exact ⟨d, rfl⟩
    rw [F__law_plain]
    refine w_run rfl ?_
    have turn : ∀ {src : Src} (xs : List D) (ps : List PyData) (b : Bool) (Q : D → Hd → Prop), src.fuel = xs.length → All2 (Rp 2 w h d) xs ps → ps.length ≤ w → (∀ h' i, Fr [] h h' → src.item h' i = some xs[i]?) →
        (∀ h' y, Fr [] h h' → Rp h.length (w + 1) h' (d + 2) y (.list (.bool b :: pl.pls ps)) → Q y h') →
        W (compL src (gSet 1) xYes (xCall (F__law_plain n) [] (xCons (xV 1) xNil)) (h ++ [Cell.lst [.bl b]]).length (wipeD (startD 2 [x]) [1]) (src.fuel + 1) 0) (h ++ [Cell.lst [.bl b]] ++ [Cell.lst []]) fun y h2 => W (addM (.ref h.length) y) h2 Q := by
      intro src xs ps b Q hf ha hl hit hQ
      have hlen := ha.len
      have F0 : Fr [] h (h ++ [Cell.lst [.bl b]] ++ [Cell.lst []]) := Fr.push.trans .push
      refine w_compL (n := xs.length) (fun i h' => Fr [] (h ++ [Cell.lst [.bl b]]) h' ∧ ∃ ys, h'[h.length + 1]? = some (.lst ys) ∧ ys.length = i ∧ All2 (Rp (h.length + 2) (w + 1) h' (d + 1)) ys (pl.pls (ps.take i))) ?_ ?_ _ 0 _ (Nat.zero_le _) (by rw [hf]; omega) ⟨.push, [], by simp, rfl, by simp only [List.take_zero, pl.pls]; exact .nil⟩
      · rintro i h' hi ⟨F, ys, e, hy, a⟩
        have F1 : Fr [] h h' := Fr.push.trans F
        rcases Nat.lt_or_ge i xs.length with c | c
        · refine .inr ⟨c, xs[i], by rw [hit _ _ F1, List.getElem?_eq_getElem c], ?_⟩
          unfold TurnC
          try simp only [W_seq, W_asg, W_set, W_V, WV_some, W_C, W_op, W_cmpT, W_isB, W_un, W_tru, W_andT, W_orT, W_notT, W_andV, W_orV, W_notV, W_ife, W_nil, W_cons, W_tup, W_lst, W_addI, W_subI, W_iaddI, W_negI, W_mulI, W_fdivI, W_modI, W_powI, W_cmpI, W_isB_bl, W_isNB, W_isN, W_isntB, W_isntN, W_eqI, W_neI, W_pass, W_brk, W_cont, W_drop, W_rt, W_rtN, W_ifS, W_gsNil, W_gsCons, W_gTup, W_aug, W_call, W_B, RtN_rt, RtN_nx, W_abs, W_intI, W_intB, W_noPart, W_part, W_sl, W_lm, W_lm0, W_iter, W_range1, W_range2, W_forE, W_revE, W_compE, W_yes, W_lenT, W_truB, W_truI, List.append_nil, List.getElem?_cons_zero, List.getElem?_cons_succ, List.set_cons_zero, List.set_cons_succ, List.getElem?_set_self, List.getElem?_set_ne, lt_set, ne_eq, Nat.reduceEqDiff, not_false_eq_true, Nat.reduceLT, Nat.zero_ne_one, Nat.one_ne_zero, Nat.lt_add_one, Nat.zero_lt_succ, startD, List.map_cons, List.map_nil, List.length_cons, List.length_nil, List.cons_append, List.nil_append, Nat.reduceAdd, Nat.reduceSub, Nat.zero_add, List.replicate_succ, List.replicate_zero, wipeD, if_true]
          have ri := (ha.get i c (by omega)).fr F1
          refine W.mono (ih d _ _ _ ri (by omega) (Nat.lt_of_lt_of_le h1 F1.le)) fun y h2 ⟨F2, ry⟩ => ?_
          have e2 := F2.keep e (by simp) (by omega)
          have FF : Fr [h.length + 1] h2 (h2.set (h.length + 1) (.lst (ys ++ [y]))) := .write (by simp) (by omega)
          have hl2 : h.length + 2 ≤ h'.length := by have := get_lt e; omega
          refine ⟨ys, by simpa using e2, by show ys.length < 1000000; omega, ?_⟩
          rw [show (h ++ [Cell.lst [D.bl b]]).length = h.length + 1 by simp]
          refine ⟨Fr.fresh (n := h.length + 1) ((F.trans F2).mono (fun _ _ z => by cases z) |>.trans FF) (by simp), ys ++ [y], get_set e2, by simp [hy], ?_⟩
          rw [pls_take _ _ (by omega)]
          refine All2.app (a.imp fun _ _ z => (z.fr F2).frS FF (by simp)) (.cons (Rp.frS FF (by simp) (ry.up hl2 (Nat.le_refl _) (Nat.le_refl _))) .nil)
        · exact .inl ⟨by omega, by rw [hit _ _ F1, List.getElem?_eq_none c]⟩
      · rintro h' ⟨F, ys, e, hy, a⟩
        have e1 : h'[h.length]? = some (.lst [.bl b]) := F.keep get_push (by simp) (by omega)
        rw [show (h ++ [Cell.lst [D.bl b]]).length = h.length + 1 by simp]
        rw [W_addL e1 e (by show _ ≤ 1000000; simp; omega)]
        refine hQ _ _ ((Fr.push.trans F).trans .push) ?_
        have hl' := get_lt e
        refine ⟨h'.length, [.bl b] ++ ys, rfl, ⟨by omega, by omega⟩, get_push, by simp [pls_len]; omega, .cons (show Rp h.length (w + 1) (h' ++ [Cell.lst ([D.bl b] ++ ys)]) (d + 1) (.bl b) (.bool b) from rfl) ?_⟩
        rw [hlen, List.take_length] at a
        exact a.imp fun _ _ z => (z.fr .push).up (by omega) (Nat.le_refl _) (Nat.le_refl _)
    cases p with
    | tuple ps =>
      obtain ⟨xs, rfl, hl, a⟩ := r
      try simp only [W_seq, W_asg, W_set, W_V, WV_some, W_C, W_op, W_cmpT, W_isB, W_un, W_tru, W_andT, W_orT, W_notT, W_andV, W_orV, W_notV, W_ife, W_nil, W_cons, W_tup, W_lst, W_addI, W_subI, W_iaddI, W_negI, W_mulI, W_fdivI, W_modI, W_powI, W_cmpI, W_isB_bl, W_isNB, W_isN, W_isntB, W_isntN, W_eqI, W_neI, W_pass, W_brk, W_cont, W_drop, W_rt, W_rtN, W_ifS, W_gsNil, W_gsCons, W_gTup, W_aug, W_call, W_B, RtN_rt, RtN_nx, W_abs, W_intI, W_intB, W_noPart, W_part, W_sl, W_lm, W_lm0, W_iter, W_range1, W_range2, W_forE, W_revE, W_compE, W_yes, W_lenT, W_truB, W_truI, List.append_nil, List.getElem?_cons_zero, List.getElem?_cons_succ, List.set_cons_zero, List.set_cons_succ, List.getElem?_set_self, List.getElem?_set_ne, lt_set, ne_eq, Nat.reduceEqDiff, not_false_eq_true, Nat.reduceLT, Nat.zero_ne_one, Nat.one_ne_zero, Nat.lt_add_one, Nat.zero_lt_succ, startD, List.map_cons, List.map_nil, List.length_cons, List.length_nil, List.cons_append, List.nil_append, Nat.reduceAdd, Nat.reduceSub, Nat.zero_add, List.replicate_succ, List.replicate_zero]
      rw [W_isi (a := "tuple") rfl]
      try simp only [W_seq, W_asg, W_set, W_V, WV_some, W_C, W_op, W_cmpT, W_isB, W_un, W_tru, W_andT, W_orT, W_notT, W_andV, W_orV, W_notV, W_ife, W_nil, W_cons, W_tup, W_lst, W_addI, W_subI, W_iaddI, W_negI, W_mulI, W_fdivI, W_modI, W_powI, W_cmpI, W_isB_bl, W_isNB, W_isN, W_isntB, W_isntN, W_eqI, W_neI, W_pass, W_brk, W_cont, W_drop, W_rt, W_rtN, W_ifS, W_gsNil, W_gsCons, W_gTup, W_aug, W_call, W_B, RtN_rt, RtN_nx, W_abs, W_intI, W_intB, W_noPart, W_part, W_sl, W_lm, W_lm0, W_iter, W_range1, W_range2, W_forE, W_revE, W_compE, W_yes, W_lenT, W_truB, W_truI, List.append_nil, List.getElem?_cons_zero, List.getElem?_cons_succ, List.set_cons_zero, List.set_cons_succ, List.getElem?_set_self, List.getElem?_set_ne, lt_set, ne_eq, Nat.reduceEqDiff, not_false_eq_true, Nat.reduceLT, Nat.zero_ne_one, Nat.one_ne_zero, Nat.lt_add_one, Nat.zero_lt_succ, startD, List.map_cons, List.map_nil, List.length_cons, List.length_nil, List.cons_append, List.nil_append, Nat.reduceAdd, Nat.reduceSub, Nat.zero_add, List.replicate_succ, List.replicate_zero, show (["tuple", "list"].any fun b => isaT "tuple" b) = true from by decide, if_true]
      rw [W_isi (a := "tuple") rfl]
      try simp only [W_seq, W_asg, W_set, W_V, WV_some, W_C, W_op, W_cmpT, W_isB, W_un, W_tru, W_andT, W_orT, W_notT, W_andV, W_orV, W_notV, W_ife, W_nil, W_cons, W_tup, W_lst, W_addI, W_subI, W_iaddI, W_negI, W_mulI, W_fdivI, W_modI, W_powI, W_cmpI, W_isB_bl, W_isNB, W_isN, W_isntB, W_isntN, W_eqI, W_neI, W_pass, W_brk, W_cont, W_drop, W_rt, W_rtN, W_ifS, W_gsNil, W_gsCons, W_gTup, W_aug, W_call, W_B, RtN_rt, RtN_nx, W_abs, W_intI, W_intB, W_noPart, W_part, W_sl, W_lm, W_lm0, W_iter, W_range1, W_range2, W_forE, W_revE, W_compE, W_yes, W_lenT, W_truB, W_truI, List.append_nil, List.getElem?_cons_zero, List.getElem?_cons_succ, List.set_cons_zero, List.set_cons_succ, List.getElem?_set_self, List.getElem?_set_ne, lt_set, ne_eq, Nat.reduceEqDiff, not_false_eq_true, Nat.reduceLT, Nat.zero_ne_one, Nat.one_ne_zero, Nat.lt_add_one, Nat.zero_lt_succ, startD, List.map_cons, List.map_nil, List.length_cons, List.length_nil, List.cons_append, List.nil_append, Nat.reduceAdd, Nat.reduceSub, Nat.zero_add, List.replicate_succ, List.replicate_zero, show (["list"].any fun b => isaT "tuple" b) = false from by decide]
      refine ⟨by decide, ?_⟩
      try simp only [W_seq, W_asg, W_set, W_V, WV_some, W_C, W_op, W_cmpT, W_isB, W_un, W_tru, W_andT, W_orT, W_notT, W_andV, W_orV, W_notV, W_ife, W_nil, W_cons, W_tup, W_lst, W_addI, W_subI, W_iaddI, W_negI, W_mulI, W_fdivI, W_modI, W_powI, W_cmpI, W_isB_bl, W_isNB, W_isN, W_isntB, W_isntN, W_eqI, W_neI, W_pass, W_brk, W_cont, W_drop, W_rt, W_rtN, W_ifS, W_gsNil, W_gsCons, W_gTup, W_aug, W_call, W_B, RtN_rt, RtN_nx, W_abs, W_intI, W_intB, W_noPart, W_part, W_sl, W_lm, W_lm0, W_iter, W_range1, W_range2, W_forE, W_revE, W_compE, W_yes, W_lenT, W_truB, W_truI, List.append_nil, List.getElem?_cons_zero, List.getElem?_cons_succ, List.set_cons_zero, List.set_cons_succ, List.getElem?_set_self, List.getElem?_set_ne, lt_set, ne_eq, Nat.reduceEqDiff, not_false_eq_true, Nat.reduceLT, Nat.zero_ne_one, Nat.one_ne_zero, Nat.lt_add_one, Nat.zero_lt_succ, startD, List.map_cons, List.map_nil, List.length_cons, List.length_nil, List.cons_append, List.nil_append, Nat.reduceAdd, Nat.reduceSub, Nat.zero_add, List.replicate_succ, List.replicate_zero]
      rw [W_srcTp]
      exact turn (src := srcTp xs) xs ps false _ rfl a hl (fun h' i F => rfl) fun h' y F r => ⟨F, r⟩
    | list ps =>
      obtain ⟨n, xs, rfl, h2, e, hl, a⟩ := r
      try simp only [W_seq, W_asg, W_set, W_V, WV_some, W_C, W_op, W_cmpT, W_isB, W_un, W_tru, W_andT, W_orT, W_notT, W_andV, W_orV, W_notV, W_ife, W_nil, W_cons, W_tup, W_lst, W_addI, W_subI, W_iaddI, W_negI, W_mulI, W_fdivI, W_modI, W_powI, W_cmpI, W_isB_bl, W_isNB, W_isN, W_isntB, W_isntN, W_eqI, W_neI, W_pass, W_brk, W_cont, W_drop, W_rt, W_rtN, W_ifS, W_gsNil, W_gsCons, W_gTup, W_aug, W_call, W_B, RtN_rt, RtN_nx, W_abs, W_intI, W_intB, W_noPart, W_part, W_sl, W_lm, W_lm0, W_iter, W_range1, W_range2, W_forE, W_revE, W_compE, W_yes, W_lenT, W_truB, W_truI, List.append_nil, List.getElem?_cons_zero, List.getElem?_cons_succ, List.set_cons_zero, List.set_cons_succ, List.getElem?_set_self, List.getElem?_set_ne, lt_set, ne_eq, Nat.reduceEqDiff, not_false_eq_true, Nat.reduceLT, Nat.zero_ne_one, Nat.one_ne_zero, Nat.lt_add_one, Nat.zero_lt_succ, startD, List.map_cons, List.map_nil, List.length_cons, List.length_nil, List.cons_append, List.nil_append, Nat.reduceAdd, Nat.reduceSub, Nat.zero_add, List.replicate_succ, List.replicate_zero]
      have ty : tyD h (.ref n) = some "list" := by simp only [tyD, e]
      rw [W_isi ty]
      try simp only [W_seq, W_asg, W_set, W_V, WV_some, W_C, W_op, W_cmpT, W_isB, W_un, W_tru, W_andT, W_orT, W_notT, W_andV, W_orV, W_notV, W_ife, W_nil, W_cons, W_tup, W_lst, W_addI, W_subI, W_iaddI, W_negI, W_mulI, W_fdivI, W_modI, W_powI, W_cmpI, W_isB_bl, W_isNB, W_isN, W_isntB, W_isntN, W_eqI, W_neI, W_pass, W_brk, W_cont, W_drop, W_rt, W_rtN, W_ifS, W_gsNil, W_gsCons, W_gTup, W_aug, W_call, W_B, RtN_rt, RtN_nx, W_abs, W_intI, W_intB, W_noPart, W_part, W_sl, W_lm, W_lm0, W_iter, W_range1, W_range2, W_forE, W_revE, W_compE, W_yes, W_lenT, W_truB, W_truI, List.append_nil, List.getElem?_cons_zero, List.getElem?_cons_succ, List.set_cons_zero, List.set_cons_succ, List.getElem?_set_self, List.getElem?_set_ne, lt_set, ne_eq, Nat.reduceEqDiff, not_false_eq_true, Nat.reduceLT, Nat.zero_ne_one, Nat.one_ne_zero, Nat.lt_add_one, Nat.zero_lt_succ, startD, List.map_cons, List.map_nil, List.length_cons, List.length_nil, List.cons_append, List.nil_append, Nat.reduceAdd, Nat.reduceSub, Nat.zero_add, List.replicate_succ, List.replicate_zero, show (["tuple", "list"].any fun b => isaT "list" b) = true from by decide, if_true]
      rw [W_isi ty]
      try simp only [W_seq, W_asg, W_set, W_V, WV_some, W_C, W_op, W_cmpT, W_isB, W_un, W_tru, W_andT, W_orT, W_notT, W_andV, W_orV, W_notV, W_ife, W_nil, W_cons, W_tup, W_lst, W_addI, W_subI, W_iaddI, W_negI, W_mulI, W_fdivI, W_modI, W_powI, W_cmpI, W_isB_bl, W_isNB, W_isN, W_isntB, W_isntN, W_eqI, W_neI, W_pass, W_brk, W_cont, W_drop, W_rt, W_rtN, W_ifS, W_gsNil, W_gsCons, W_gTup, W_aug, W_call, W_B, RtN_rt, RtN_nx, W_abs, W_intI, W_intB, W_noPart, W_part, W_sl, W_lm, W_lm0, W_iter, W_range1, W_range2, W_forE, W_revE, W_compE, W_yes, W_lenT, W_truB, W_truI, List.append_nil, List.getElem?_cons_zero, List.getElem?_cons_succ, List.set_cons_zero, List.set_cons_succ, List.getElem?_set_self, List.getElem?_set_ne, lt_set, ne_eq, Nat.reduceEqDiff, not_false_eq_true, Nat.reduceLT, Nat.zero_ne_one, Nat.one_ne_zero, Nat.lt_add_one, Nat.zero_lt_succ, startD, List.map_cons, List.map_nil, List.length_cons, List.length_nil, List.cons_append, List.nil_append, Nat.reduceAdd, Nat.reduceSub, Nat.zero_add, List.replicate_succ, List.replicate_zero, show (["list"].any fun b => isaT "list" b) = true from by decide]
      refine ⟨by decide, ?_⟩
      try simp only [W_seq, W_asg, W_set, W_V, WV_some, W_C, W_op, W_cmpT, W_isB, W_un, W_tru, W_andT, W_orT, W_notT, W_andV, W_orV, W_notV, W_ife, W_nil, W_cons, W_tup, W_lst, W_addI, W_subI, W_iaddI, W_negI, W_mulI, W_fdivI, W_modI, W_powI, W_cmpI, W_isB_bl, W_isNB, W_isN, W_isntB, W_isntN, W_eqI, W_neI, W_pass, W_brk, W_cont, W_drop, W_rt, W_rtN, W_ifS, W_gsNil, W_gsCons, W_gTup, W_aug, W_call, W_B, RtN_rt, RtN_nx, W_abs, W_intI, W_intB, W_noPart, W_part, W_sl, W_lm, W_lm0, W_iter, W_range1, W_range2, W_forE, W_revE, W_compE, W_yes, W_lenT, W_truB, W_truI, List.append_nil, List.getElem?_cons_zero, List.getElem?_cons_succ, List.set_cons_zero, List.set_cons_succ, List.getElem?_set_self, List.getElem?_set_ne, lt_set, ne_eq, Nat.reduceEqDiff, not_false_eq_true, Nat.reduceLT, Nat.zero_ne_one, Nat.one_ne_zero, Nat.lt_add_one, Nat.zero_lt_succ, startD, List.map_cons, List.map_nil, List.length_cons, List.length_nil, List.cons_append, List.nil_append, Nat.reduceAdd, Nat.reduceSub, Nat.zero_add, List.replicate_succ, List.replicate_zero]
      rw [W_srcL (get_pushL e)]
      exact turn (src := srcLst n xs.length) xs ps true _ rfl a hl (fun h' i F => by simp only [srcLst, Dt.listOf, F.keep e (by simp) h2.2]) fun h' y F r => ⟨F, r⟩
    | none =>
      obtain rfl := r
      try simp only [W_seq, W_asg, W_set, W_V, WV_some, W_C, W_op, W_cmpT, W_isB, W_un, W_tru, W_andT, W_orT, W_notT, W_andV, W_orV, W_notV, W_ife, W_nil, W_cons, W_tup, W_lst, W_addI, W_subI, W_iaddI, W_negI, W_mulI, W_fdivI, W_modI, W_powI, W_cmpI, W_isB_bl, W_isNB, W_isN, W_isntB, W_isntN, W_eqI, W_neI, W_pass, W_brk, W_cont, W_drop, W_rt, W_rtN, W_ifS, W_gsNil, W_gsCons, W_gTup, W_aug, W_call, W_B, RtN_rt, RtN_nx, W_abs, W_intI, W_intB, W_noPart, W_part, W_sl, W_lm, W_lm0, W_iter, W_range1, W_range2, W_forE, W_revE, W_compE, W_yes, W_lenT, W_truB, W_truI, List.append_nil, List.getElem?_cons_zero, List.getElem?_cons_succ, List.set_cons_zero, List.set_cons_succ, List.getElem?_set_self, List.getElem?_set_ne, lt_set, ne_eq, Nat.reduceEqDiff, not_false_eq_true, Nat.reduceLT, Nat.zero_ne_one, Nat.one_ne_zero, Nat.lt_add_one, Nat.zero_lt_succ, startD, List.map_cons, List.map_nil, List.length_cons, List.length_nil, List.cons_append, List.nil_append, Nat.reduceAdd, Nat.reduceSub, Nat.zero_add, List.replicate_succ, List.replicate_zero]
      rw [W_isi (a := "NoneType") rfl]
      try simp only [W_seq, W_asg, W_set, W_V, WV_some, W_C, W_op, W_cmpT, W_isB, W_un, W_tru, W_andT, W_orT, W_notT, W_andV, W_orV, W_notV, W_ife, W_nil, W_cons, W_tup, W_lst, W_addI, W_subI, W_iaddI, W_negI, W_mulI, W_fdivI, W_modI, W_powI, W_cmpI, W_isB_bl, W_isNB, W_isN, W_isntB, W_isntN, W_eqI, W_neI, W_pass, W_brk, W_cont, W_drop, W_rt, W_rtN, W_ifS, W_gsNil, W_gsCons, W_gTup, W_aug, W_call, W_B, RtN_rt, RtN_nx, W_abs, W_intI, W_intB, W_noPart, W_part, W_sl, W_lm, W_lm0, W_iter, W_range1, W_range2, W_forE, W_revE, W_compE, W_yes, W_lenT, W_truB, W_truI, List.append_nil, List.getElem?_cons_zero, List.getElem?_cons_succ, List.set_cons_zero, List.set_cons_succ, List.getElem?_set_self, List.getElem?_set_ne, lt_set, ne_eq, Nat.reduceEqDiff, not_false_eq_true, Nat.reduceLT, Nat.zero_ne_one, Nat.one_ne_zero, Nat.lt_add_one, Nat.zero_lt_succ, startD, List.map_cons, List.map_nil, List.length_cons, List.length_nil, List.cons_append, List.nil_append, Nat.reduceAdd, Nat.reduceSub, Nat.zero_add, List.replicate_succ, List.replicate_zero, show (["tuple", "list"].any fun b => isaT "NoneType" b) = false from by decide, Bool.false_eq_true, if_false, isNonD, if_true]
      refine ⟨by decide, ?_⟩
      try simp only [W_seq, W_asg, W_set, W_V, WV_some, W_C, W_op, W_cmpT, W_isB, W_un, W_tru, W_andT, W_orT, W_notT, W_andV, W_orV, W_notV, W_ife, W_nil, W_cons, W_tup, W_lst, W_addI, W_subI, W_iaddI, W_negI, W_mulI, W_fdivI, W_modI, W_powI, W_cmpI, W_isB_bl, W_isNB, W_isN, W_isntB, W_isntN, W_eqI, W_neI, W_pass, W_brk, W_cont, W_drop, W_rt, W_rtN, W_ifS, W_gsNil, W_gsCons, W_gTup, W_aug, W_call, W_B, RtN_rt, RtN_nx, W_abs, W_intI, W_intB, W_noPart, W_part, W_sl, W_lm, W_lm0, W_iter, W_range1, W_range2, W_forE, W_revE, W_compE, W_yes, W_lenT, W_truB, W_truI, List.append_nil, List.getElem?_cons_zero, List.getElem?_cons_succ, List.set_cons_zero, List.set_cons_succ, List.getElem?_set_self, List.getElem?_set_ne, lt_set, ne_eq, Nat.reduceEqDiff, not_false_eq_true, Nat.reduceLT, Nat.zero_ne_one, Nat.one_ne_zero, Nat.lt_add_one, Nat.zero_lt_succ, startD, List.map_cons, List.map_nil, List.length_cons, List.length_nil, List.cons_append, List.nil_append, Nat.reduceAdd, Nat.reduceSub, Nat.zero_add, List.replicate_succ, List.replicate_zero, isNonD, if_true]
      rw [W_ixL (d := .str "None") get_push rfl]
      try simp only [W_seq, W_asg, W_set, W_V, WV_some, W_C, W_op, W_cmpT, W_isB, W_un, W_tru, W_andT, W_orT, W_notT, W_andV, W_orV, W_notV, W_ife, W_nil, W_cons, W_tup, W_lst, W_addI, W_subI, W_iaddI, W_negI, W_mulI, W_fdivI, W_modI, W_powI, W_cmpI, W_isB_bl, W_isNB, W_isN, W_isntB, W_isntN, W_eqI, W_neI, W_pass, W_brk, W_cont, W_drop, W_rt, W_rtN, W_ifS, W_gsNil, W_gsCons, W_gTup, W_aug, W_call, W_B, RtN_rt, RtN_nx, W_abs, W_intI, W_intB, W_noPart, W_part, W_sl, W_lm, W_lm0, W_iter, W_range1, W_range2, W_forE, W_revE, W_compE, W_yes, W_lenT, W_truB, W_truI, List.append_nil, List.getElem?_cons_zero, List.getElem?_cons_succ, List.set_cons_zero, List.set_cons_succ, List.getElem?_set_self, List.getElem?_set_ne, lt_set, ne_eq, Nat.reduceEqDiff, not_false_eq_true, Nat.reduceLT, Nat.zero_ne_one, Nat.one_ne_zero, Nat.lt_add_one, Nat.zero_lt_succ, startD, List.map_cons, List.map_nil, List.length_cons, List.length_nil, List.cons_append, List.nil_append, Nat.reduceAdd, Nat.reduceSub, Nat.zero_add, List.replicate_succ, List.replicate_zero]
      exact ⟨.push, "None", rfl, rfl⟩
    | bool b =>
      obtain rfl := r
      try simp only [W_seq, W_asg, W_set, W_V, WV_some, W_C, W_op, W_cmpT, W_isB, W_un, W_tru, W_andT, W_orT, W_notT, W_andV, W_orV, W_notV, W_ife, W_nil, W_cons, W_tup, W_lst, W_addI, W_subI, W_iaddI, W_negI, W_mulI, W_fdivI, W_modI, W_powI, W_cmpI, W_isB_bl, W_isNB, W_isN, W_isntB, W_isntN, W_eqI, W_neI, W_pass, W_brk, W_cont, W_drop, W_rt, W_rtN, W_ifS, W_gsNil, W_gsCons, W_gTup, W_aug, W_call, W_B, RtN_rt, RtN_nx, W_abs, W_intI, W_intB, W_noPart, W_part, W_sl, W_lm, W_lm0, W_iter, W_range1, W_range2, W_forE, W_revE, W_compE, W_yes, W_lenT, W_truB, W_truI, List.append_nil, List.getElem?_cons_zero, List.getElem?_cons_succ, List.set_cons_zero, List.set_cons_succ, List.getElem?_set_self, List.getElem?_set_ne, lt_set, ne_eq, Nat.reduceEqDiff, not_false_eq_true, Nat.reduceLT, Nat.zero_ne_one, Nat.one_ne_zero, Nat.lt_add_one, Nat.zero_lt_succ, startD, List.map_cons, List.map_nil, List.length_cons, List.length_nil, List.cons_append, List.nil_append, Nat.reduceAdd, Nat.reduceSub, Nat.zero_add, List.replicate_succ, List.replicate_zero]
      rw [W_isi (a := "bool") rfl]
      try simp only [W_seq, W_asg, W_set, W_V, WV_some, W_C, W_op, W_cmpT, W_isB, W_un, W_tru, W_andT, W_orT, W_notT, W_andV, W_orV, W_notV, W_ife, W_nil, W_cons, W_tup, W_lst, W_addI, W_subI, W_iaddI, W_negI, W_mulI, W_fdivI, W_modI, W_powI, W_cmpI, W_isB_bl, W_isNB, W_isN, W_isntB, W_isntN, W_eqI, W_neI, W_pass, W_brk, W_cont, W_drop, W_rt, W_rtN, W_ifS, W_gsNil, W_gsCons, W_gTup, W_aug, W_call, W_B, RtN_rt, RtN_nx, W_abs, W_intI, W_intB, W_noPart, W_part, W_sl, W_lm, W_lm0, W_iter, W_range1, W_range2, W_forE, W_revE, W_compE, W_yes, W_lenT, W_truB, W_truI, List.append_nil, List.getElem?_cons_zero, List.getElem?_cons_succ, List.set_cons_zero, List.set_cons_succ, List.getElem?_set_self, List.getElem?_set_ne, lt_set, ne_eq, Nat.reduceEqDiff, not_false_eq_true, Nat.reduceLT, Nat.zero_ne_one, Nat.one_ne_zero, Nat.lt_add_one, Nat.zero_lt_succ, startD, List.map_cons, List.map_nil, List.length_cons, List.length_nil, List.cons_append, List.nil_append, Nat.reduceAdd, Nat.reduceSub, Nat.zero_add, List.replicate_succ, List.replicate_zero, show (["tuple", "list"].any fun b => isaT "bool" b) = false from by decide, Bool.false_eq_true, if_false, isNonD, if_true]
      rw [W_isi (a := "bool") rfl]
      try simp only [W_seq, W_asg, W_set, W_V, WV_some, W_C, W_op, W_cmpT, W_isB, W_un, W_tru, W_andT, W_orT, W_notT, W_andV, W_orV, W_notV, W_ife, W_nil, W_cons, W_tup, W_lst, W_addI, W_subI, W_iaddI, W_negI, W_mulI, W_fdivI, W_modI, W_powI, W_cmpI, W_isB_bl, W_isNB, W_isN, W_isntB, W_isntN, W_eqI, W_neI, W_pass, W_brk, W_cont, W_drop, W_rt, W_rtN, W_ifS, W_gsNil, W_gsCons, W_gTup, W_aug, W_call, W_B, RtN_rt, RtN_nx, W_abs, W_intI, W_intB, W_noPart, W_part, W_sl, W_lm, W_lm0, W_iter, W_range1, W_range2, W_forE, W_revE, W_compE, W_yes, W_lenT, W_truB, W_truI, List.append_nil, List.getElem?_cons_zero, List.getElem?_cons_succ, List.set_cons_zero, List.set_cons_succ, List.getElem?_set_self, List.getElem?_set_ne, lt_set, ne_eq, Nat.reduceEqDiff, not_false_eq_true, Nat.reduceLT, Nat.zero_ne_one, Nat.one_ne_zero, Nat.lt_add_one, Nat.zero_lt_succ, startD, List.map_cons, List.map_nil, List.length_cons, List.length_nil, List.cons_append, List.nil_append, Nat.reduceAdd, Nat.reduceSub, Nat.zero_add, List.replicate_succ, List.replicate_zero, show (["bool"].any fun b => isaT "bool" b) = true from by decide, if_true, isNonD]
      refine ⟨by decide, ?_⟩
      try simp only [W_seq, W_asg, W_set, W_V, WV_some, W_C, W_op, W_cmpT, W_isB, W_un, W_tru, W_andT, W_orT, W_notT, W_andV, W_orV, W_notV, W_ife, W_nil, W_cons, W_tup, W_lst, W_addI, W_subI, W_iaddI, W_negI, W_mulI, W_fdivI, W_modI, W_powI, W_cmpI, W_isB_bl, W_isNB, W_isN, W_isntB, W_isntN, W_eqI, W_neI, W_pass, W_brk, W_cont, W_drop, W_rt, W_rtN, W_ifS, W_gsNil, W_gsCons, W_gTup, W_aug, W_call, W_B, RtN_rt, RtN_nx, W_abs, W_intI, W_intB, W_noPart, W_part, W_sl, W_lm, W_lm0, W_iter, W_range1, W_range2, W_forE, W_revE, W_compE, W_yes, W_lenT, W_truB, W_truI, List.append_nil, List.getElem?_cons_zero, List.getElem?_cons_succ, List.set_cons_zero, List.set_cons_succ, List.getElem?_set_self, List.getElem?_set_ne, lt_set, ne_eq, Nat.reduceEqDiff, not_false_eq_true, Nat.reduceLT, Nat.zero_ne_one, Nat.one_ne_zero, Nat.lt_add_one, Nat.zero_lt_succ, startD, List.map_cons, List.map_nil, List.length_cons, List.length_nil, List.cons_append, List.nil_append, Nat.reduceAdd, Nat.reduceSub, Nat.zero_add, List.replicate_succ, List.replicate_zero, isNonD, if_true]
      cases b
      · rw [W_ixL (d := .str "False") get_push rfl]
        try simp only [W_seq, W_asg, W_set, W_V, WV_some, W_C, W_op, W_cmpT, W_isB, W_un, W_tru, W_andT, W_orT, W_notT, W_andV, W_orV, W_notV, W_ife, W_nil, W_cons, W_tup, W_lst, W_addI, W_subI, W_iaddI, W_negI, W_mulI, W_fdivI, W_modI, W_powI, W_cmpI, W_isB_bl, W_isNB, W_isN, W_isntB, W_isntN, W_eqI, W_neI, W_pass, W_brk, W_cont, W_drop, W_rt, W_rtN, W_ifS, W_gsNil, W_gsCons, W_gTup, W_aug, W_call, W_B, RtN_rt, RtN_nx, W_abs, W_intI, W_intB, W_noPart, W_part, W_sl, W_lm, W_lm0, W_iter, W_range1, W_range2, W_forE, W_revE, W_compE, W_yes, W_lenT, W_truB, W_truI, List.append_nil, List.getElem?_cons_zero, List.getElem?_cons_succ, List.set_cons_zero, List.set_cons_succ, List.getElem?_set_self, List.getElem?_set_ne, lt_set, ne_eq, Nat.reduceEqDiff, not_false_eq_true, Nat.reduceLT, Nat.zero_ne_one, Nat.one_ne_zero, Nat.lt_add_one, Nat.zero_lt_succ, startD, List.map_cons, List.map_nil, List.length_cons, List.length_nil, List.cons_append, List.nil_append, Nat.reduceAdd, Nat.reduceSub, Nat.zero_add, List.replicate_succ, List.replicate_zero]
        exact ⟨.push, "False", rfl, rfl⟩
      · rw [W_ixL (d := .str "True") get_push rfl]
        try simp only [W_seq, W_asg, W_set, W_V, WV_some, W_C, W_op, W_cmpT, W_isB, W_un, W_tru, W_andT, W_orT, W_notT, W_andV, W_orV, W_notV, W_ife, W_nil, W_cons, W_tup, W_lst, W_addI, W_subI, W_iaddI, W_negI, W_mulI, W_fdivI, W_modI, W_powI, W_cmpI, W_isB_bl, W_isNB, W_isN, W_isntB, W_isntN, W_eqI, W_neI, W_pass, W_brk, W_cont, W_drop, W_rt, W_rtN, W_ifS, W_gsNil, W_gsCons, W_gTup, W_aug, W_call, W_B, RtN_rt, RtN_nx, W_abs, W_intI, W_intB, W_noPart, W_part, W_sl, W_lm, W_lm0, W_iter, W_range1, W_range2, W_forE, W_revE, W_compE, W_yes, W_lenT, W_truB, W_truI, List.append_nil, List.getElem?_cons_zero, List.getElem?_cons_succ, List.set_cons_zero, List.set_cons_succ, List.getElem?_set_self, List.getElem?_set_ne, lt_set, ne_eq, Nat.reduceEqDiff, not_false_eq_true, Nat.reduceLT, Nat.zero_ne_one, Nat.one_ne_zero, Nat.lt_add_one, Nat.zero_lt_succ, startD, List.map_cons, List.map_nil, List.length_cons, List.length_nil, List.cons_append, List.nil_append, Nat.reduceAdd, Nat.reduceSub, Nat.zero_add, List.replicate_succ, List.replicate_zero]
        exact ⟨.push, "True", rfl, rfl⟩
    | int i =>
      obtain rfl := r
      try simp only [W_seq, W_asg, W_set, W_V, WV_some, W_C, W_op, W_cmpT, W_isB, W_un, W_tru, W_andT, W_orT, W_notT, W_andV, W_orV, W_notV, W_ife, W_nil, W_cons, W_tup, W_lst, W_addI, W_subI, W_iaddI, W_negI, W_mulI, W_fdivI, W_modI, W_powI, W_cmpI, W_isB_bl, W_isNB, W_isN, W_isntB, W_isntN, W_eqI, W_neI, W_pass, W_brk, W_cont, W_drop, W_rt, W_rtN, W_ifS, W_gsNil, W_gsCons, W_gTup, W_aug, W_call, W_B, RtN_rt, RtN_nx, W_abs, W_intI, W_intB, W_noPart, W_part, W_sl, W_lm, W_lm0, W_iter, W_range1, W_range2, W_forE, W_revE, W_compE, W_yes, W_lenT, W_truB, W_truI, List.append_nil, List.getElem?_cons_zero, List.getElem?_cons_succ, List.set_cons_zero, List.set_cons_succ, List.getElem?_set_self, List.getElem?_set_ne, lt_set, ne_eq, Nat.reduceEqDiff, not_false_eq_true, Nat.reduceLT, Nat.zero_ne_one, Nat.one_ne_zero, Nat.lt_add_one, Nat.zero_lt_succ, startD, List.map_cons, List.map_nil, List.length_cons, List.length_nil, List.cons_append, List.nil_append, Nat.reduceAdd, Nat.reduceSub, Nat.zero_add, List.replicate_succ, List.replicate_zero]
      rw [W_isi (a := "int") rfl]
      try simp only [W_seq, W_asg, W_set, W_V, WV_some, W_C, W_op, W_cmpT, W_isB, W_un, W_tru, W_andT, W_orT, W_notT, W_andV, W_orV, W_notV, W_ife, W_nil, W_cons, W_tup, W_lst, W_addI, W_subI, W_iaddI, W_negI, W_mulI, W_fdivI, W_modI, W_powI, W_cmpI, W_isB_bl, W_isNB, W_isN, W_isntB, W_isntN, W_eqI, W_neI, W_pass, W_brk, W_cont, W_drop, W_rt, W_rtN, W_ifS, W_gsNil, W_gsCons, W_gTup, W_aug, W_call, W_B, RtN_rt, RtN_nx, W_abs, W_intI, W_intB, W_noPart, W_part, W_sl, W_lm, W_lm0, W_iter, W_range1, W_range2, W_forE, W_revE, W_compE, W_yes, W_lenT, W_truB, W_truI, List.append_nil, List.getElem?_cons_zero, List.getElem?_cons_succ, List.set_cons_zero, List.set_cons_succ, List.getElem?_set_self, List.getElem?_set_ne, lt_set, ne_eq, Nat.reduceEqDiff, not_false_eq_true, Nat.reduceLT, Nat.zero_ne_one, Nat.one_ne_zero, Nat.lt_add_one, Nat.zero_lt_succ, startD, List.map_cons, List.map_nil, List.length_cons, List.length_nil, List.cons_append, List.nil_append, Nat.reduceAdd, Nat.reduceSub, Nat.zero_add, List.replicate_succ, List.replicate_zero, show (["tuple", "list"].any fun b => isaT "int" b) = false from by decide, Bool.false_eq_true, if_false, isNonD, if_true]
      rw [W_isi (a := "int") rfl]
      try simp only [W_seq, W_asg, W_set, W_V, WV_some, W_C, W_op, W_cmpT, W_isB, W_un, W_tru, W_andT, W_orT, W_notT, W_andV, W_orV, W_notV, W_ife, W_nil, W_cons, W_tup, W_lst, W_addI, W_subI, W_iaddI, W_negI, W_mulI, W_fdivI, W_modI, W_powI, W_cmpI, W_isB_bl, W_isNB, W_isN, W_isntB, W_isntN, W_eqI, W_neI, W_pass, W_brk, W_cont, W_drop, W_rt, W_rtN, W_ifS, W_gsNil, W_gsCons, W_gTup, W_aug, W_call, W_B, RtN_rt, RtN_nx, W_abs, W_intI, W_intB, W_noPart, W_part, W_sl, W_lm, W_lm0, W_iter, W_range1, W_range2, W_forE, W_revE, W_compE, W_yes, W_lenT, W_truB, W_truI, List.append_nil, List.getElem?_cons_zero, List.getElem?_cons_succ, List.set_cons_zero, List.set_cons_succ, List.getElem?_set_self, List.getElem?_set_ne, lt_set, ne_eq, Nat.reduceEqDiff, not_false_eq_true, Nat.reduceLT, Nat.zero_ne_one, Nat.one_ne_zero, Nat.lt_add_one, Nat.zero_lt_succ, startD, List.map_cons, List.map_nil, List.length_cons, List.length_nil, List.cons_append, List.nil_append, Nat.reduceAdd, Nat.reduceSub, Nat.zero_add, List.replicate_succ, List.replicate_zero, show (["bool"].any fun b => isaT "int" b) = false from by decide, if_false, isNonD, Bool.false_eq_true]
      rw [W_isi (a := "int") rfl]
      try simp only [W_seq, W_asg, W_set, W_V, WV_some, W_C, W_op, W_cmpT, W_isB, W_un, W_tru, W_andT, W_orT, W_notT, W_andV, W_orV, W_notV, W_ife, W_nil, W_cons, W_tup, W_lst, W_addI, W_subI, W_iaddI, W_negI, W_mulI, W_fdivI, W_modI, W_powI, W_cmpI, W_isB_bl, W_isNB, W_isN, W_isntB, W_isntN, W_eqI, W_neI, W_pass, W_brk, W_cont, W_drop, W_rt, W_rtN, W_ifS, W_gsNil, W_gsCons, W_gTup, W_aug, W_call, W_B, RtN_rt, RtN_nx, W_abs, W_intI, W_intB, W_noPart, W_part, W_sl, W_lm, W_lm0, W_iter, W_range1, W_range2, W_forE, W_revE, W_compE, W_yes, W_lenT, W_truB, W_truI, List.append_nil, List.getElem?_cons_zero, List.getElem?_cons_succ, List.set_cons_zero, List.set_cons_succ, List.getElem?_set_self, List.getElem?_set_ne, lt_set, ne_eq, Nat.reduceEqDiff, not_false_eq_true, Nat.reduceLT, Nat.zero_ne_one, Nat.one_ne_zero, Nat.lt_add_one, Nat.zero_lt_succ, startD, List.map_cons, List.map_nil, List.length_cons, List.length_nil, List.cons_append, List.nil_append, Nat.reduceAdd, Nat.reduceSub, Nat.zero_add, List.replicate_succ, List.replicate_zero, show (["int", "str"].any fun b => isaT "int" b) = true from by decide, if_true]
      rw [W_isi (a := "int") rfl]
      try simp only [W_seq, W_asg, W_set, W_V, WV_some, W_C, W_op, W_cmpT, W_isB, W_un, W_tru, W_andT, W_orT, W_notT, W_andV, W_orV, W_notV, W_ife, W_nil, W_cons, W_tup, W_lst, W_addI, W_subI, W_iaddI, W_negI, W_mulI, W_fdivI, W_modI, W_powI, W_cmpI, W_isB_bl, W_isNB, W_isN, W_isntB, W_isntN, W_eqI, W_neI, W_pass, W_brk, W_cont, W_drop, W_rt, W_rtN, W_ifS, W_gsNil, W_gsCons, W_gTup, W_aug, W_call, W_B, RtN_rt, RtN_nx, W_abs, W_intI, W_intB, W_noPart, W_part, W_sl, W_lm, W_lm0, W_iter, W_range1, W_range2, W_forE, W_revE, W_compE, W_yes, W_lenT, W_truB, W_truI, List.append_nil, List.getElem?_cons_zero, List.getElem?_cons_succ, List.set_cons_zero, List.set_cons_succ, List.getElem?_set_self, List.getElem?_set_ne, lt_set, ne_eq, Nat.reduceEqDiff, not_false_eq_true, Nat.reduceLT, Nat.zero_ne_one, Nat.one_ne_zero, Nat.lt_add_one, Nat.zero_lt_succ, startD, List.map_cons, List.map_nil, List.length_cons, List.length_nil, List.cons_append, List.nil_append, Nat.reduceAdd, Nat.reduceSub, Nat.zero_add, List.replicate_succ, List.replicate_zero, show (["str"].any fun b => isaT "int" b) = false from by decide, if_true]
      refine ⟨by decide, .push, h.length, _, rfl, ⟨Nat.le_refl _, by omega⟩, get_push, by simp; omega, .cons rfl (.cons rfl .nil)⟩
    | str s =>
      obtain ⟨t, rfl, rfl⟩ := r
      try simp only [W_seq, W_asg, W_set, W_V, WV_some, W_C, W_op, W_cmpT, W_isB, W_un, W_tru, W_andT, W_orT, W_notT, W_andV, W_orV, W_notV, W_ife, W_nil, W_cons, W_tup, W_lst, W_addI, W_subI, W_iaddI, W_negI, W_mulI, W_fdivI, W_modI, W_powI, W_cmpI, W_isB_bl, W_isNB, W_isN, W_isntB, W_isntN, W_eqI, W_neI, W_pass, W_brk, W_cont, W_drop, W_rt, W_rtN, W_ifS, W_gsNil, W_gsCons, W_gTup, W_aug, W_call, W_B, RtN_rt, RtN_nx, W_abs, W_intI, W_intB, W_noPart, W_part, W_sl, W_lm, W_lm0, W_iter, W_range1, W_range2, W_forE, W_revE, W_compE, W_yes, W_lenT, W_truB, W_truI, List.append_nil, List.getElem?_cons_zero, List.getElem?_cons_succ, List.set_cons_zero, List.set_cons_succ, List.getElem?_set_self, List.getElem?_set_ne, lt_set, ne_eq, Nat.reduceEqDiff, not_false_eq_true, Nat.reduceLT, Nat.zero_ne_one, Nat.one_ne_zero, Nat.lt_add_one, Nat.zero_lt_succ, startD, List.map_cons, List.map_nil, List.length_cons, List.length_nil, List.cons_append, List.nil_append, Nat.reduceAdd, Nat.reduceSub, Nat.zero_add, List.replicate_succ, List.replicate_zero]
      rw [W_isi (a := "str") rfl]
      try simp only [W_seq, W_asg, W_set, W_V, WV_some, W_C, W_op, W_cmpT, W_isB, W_un, W_tru, W_andT, W_orT, W_notT, W_andV, W_orV, W_notV, W_ife, W_nil, W_cons, W_tup, W_lst, W_addI, W_subI, W_iaddI, W_negI, W_mulI, W_fdivI, W_modI, W_powI, W_cmpI, W_isB_bl, W_isNB, W_isN, W_isntB, W_isntN, W_eqI, W_neI, W_pass, W_brk, W_cont, W_drop, W_rt, W_rtN, W_ifS, W_gsNil, W_gsCons, W_gTup, W_aug, W_call, W_B, RtN_rt, RtN_nx, W_abs, W_intI, W_intB, W_noPart, W_part, W_sl, W_lm, W_lm0, W_iter, W_range1, W_range2, W_forE, W_revE, W_compE, W_yes, W_lenT, W_truB, W_truI, List.append_nil, List.getElem?_cons_zero, List.getElem?_cons_succ, List.set_cons_zero, List.set_cons_succ, List.getElem?_set_self, List.getElem?_set_ne, lt_set, ne_eq, Nat.reduceEqDiff, not_false_eq_true, Nat.reduceLT, Nat.zero_ne_one, Nat.one_ne_zero, Nat.lt_add_one, Nat.zero_lt_succ, startD, List.map_cons, List.map_nil, List.length_cons, List.length_nil, List.cons_append, List.nil_append, Nat.reduceAdd, Nat.reduceSub, Nat.zero_add, List.replicate_succ, List.replicate_zero, show (["tuple", "list"].any fun b => isaT "str" b) = false from by decide, Bool.false_eq_true, if_false, isNonD, if_true]
      rw [W_isi (a := "str") rfl]
      try simp only [W_seq, W_asg, W_set, W_V, WV_some, W_C, W_op, W_cmpT, W_isB, W_un, W_tru, W_andT, W_orT, W_notT, W_andV, W_orV, W_notV, W_ife, W_nil, W_cons, W_tup, W_lst, W_addI, W_subI, W_iaddI, W_negI, W_mulI, W_fdivI, W_modI, W_powI, W_cmpI, W_isB_bl, W_isNB, W_isN, W_isntB, W_isntN, W_eqI, W_neI, W_pass, W_brk, W_cont, W_drop, W_rt, W_rtN, W_ifS, W_gsNil, W_gsCons, W_gTup, W_aug, W_call, W_B, RtN_rt, RtN_nx, W_abs, W_intI, W_intB, W_noPart, W_part, W_sl, W_lm, W_lm0, W_iter, W_range1, W_range2, W_forE, W_revE, W_compE, W_yes, W_lenT, W_truB, W_truI, List.append_nil, List.getElem?_cons_zero, List.getElem?_cons_succ, List.set_cons_zero, List.set_cons_succ, List.getElem?_set_self, List.getElem?_set_ne, lt_set, ne_eq, Nat.reduceEqDiff, not_false_eq_true, Nat.reduceLT, Nat.zero_ne_one, Nat.one_ne_zero, Nat.lt_add_one, Nat.zero_lt_succ, startD, List.map_cons, List.map_nil, List.length_cons, List.length_nil, List.cons_append, List.nil_append, Nat.reduceAdd, Nat.reduceSub, Nat.zero_add, List.replicate_succ, List.replicate_zero, show (["bool"].any fun b => isaT "str" b) = false from by decide, if_false, isNonD, Bool.false_eq_true]
      rw [W_isi (a := "str") rfl]
      try simp only [W_seq, W_asg, W_set, W_V, WV_some, W_C, W_op, W_cmpT, W_isB, W_un, W_tru, W_andT, W_orT, W_notT, W_andV, W_orV, W_notV, W_ife, W_nil, W_cons, W_tup, W_lst, W_addI, W_subI, W_iaddI, W_negI, W_mulI, W_fdivI, W_modI, W_powI, W_cmpI, W_isB_bl, W_isNB, W_isN, W_isntB, W_isntN, W_eqI, W_neI, W_pass, W_brk, W_cont, W_drop, W_rt, W_rtN, W_ifS, W_gsNil, W_gsCons, W_gTup, W_aug, W_call, W_B, RtN_rt, RtN_nx, W_abs, W_intI, W_intB, W_noPart, W_part, W_sl, W_lm, W_lm0, W_iter, W_range1, W_range2, W_forE, W_revE, W_compE, W_yes, W_lenT, W_truB, W_truI, List.append_nil, List.getElem?_cons_zero, List.getElem?_cons_succ, List.set_cons_zero, List.set_cons_succ, List.getElem?_set_self, List.getElem?_set_ne, lt_set, ne_eq, Nat.reduceEqDiff, not_false_eq_true, Nat.reduceLT, Nat.zero_ne_one, Nat.one_ne_zero, Nat.lt_add_one, Nat.zero_lt_succ, startD, List.map_cons, List.map_nil, List.length_cons, List.length_nil, List.cons_append, List.nil_append, Nat.reduceAdd, Nat.reduceSub, Nat.zero_add, List.replicate_succ, List.replicate_zero, show (["int", "str"].any fun b => isaT "str" b) = true from by decide, if_true]
      rw [W_isi (a := "str") rfl]
      try simp only [W_seq, W_asg, W_set, W_V, WV_some, W_C, W_op, W_cmpT, W_isB, W_un, W_tru, W_andT, W_orT, W_notT, W_andV, W_orV, W_notV, W_ife, W_nil, W_cons, W_tup, W_lst, W_addI, W_subI, W_iaddI, W_negI, W_mulI, W_fdivI, W_modI, W_powI, W_cmpI, W_isB_bl, W_isNB, W_isN, W_isntB, W_isntN, W_eqI, W_neI, W_pass, W_brk, W_cont, W_drop, W_rt, W_rtN, W_ifS, W_gsNil, W_gsCons, W_gTup, W_aug, W_call, W_B, RtN_rt, RtN_nx, W_abs, W_intI, W_intB, W_noPart, W_part, W_sl, W_lm, W_lm0, W_iter, W_range1, W_range2, W_forE, W_revE, W_compE, W_yes, W_lenT, W_truB, W_truI, List.append_nil, List.getElem?_cons_zero, List.getElem?_cons_succ, List.set_cons_zero, List.set_cons_succ, List.getElem?_set_self, List.getElem?_set_ne, lt_set, ne_eq, Nat.reduceEqDiff, not_false_eq_true, Nat.reduceLT, Nat.zero_ne_one, Nat.one_ne_zero, Nat.lt_add_one, Nat.zero_lt_succ, startD, List.map_cons, List.map_nil, List.length_cons, List.length_nil, List.cons_append, List.nil_append, Nat.reduceAdd, Nat.reduceSub, Nat.zero_add, List.replicate_succ, List.replicate_zero, show (["str"].any fun b => isaT "str" b) = true from by decide, if_true]
      refine ⟨by decide, .push, h.length, _, rfl, ⟨Nat.le_refl _, by omega⟩, get_push, by simp; omega, .cons rfl (.cons ⟨t, rfl, rfl⟩ .nil)⟩
    | dict _ => exact r.elim
theorem same_law {w d : Nat} {x y : D} {p : PyData} {h : Hd} (rx : Rp 2 w h d x p) (ry : Rp 2 w h d y p) (h1 : 1 < h.length) {Q : D → Hd → Prop} (q : ∀ h', Fr [] h h' → Q (.bl true) h') (hw : 1 ≤ w := by decide) (hwl : w ≤ 1000 := by decide) (hd : d ≤ 12 := by decide) (hs : (w + 3) * (d + 1) ≤ 400 := by decide) : W (F__law_same [x, y]) h Q := by
  unfold F__law_same B__law_same
  refine w_run rfl ?_
  simp only [W_seq, W_asg, W_set, W_V, WV_some, W_C, W_op, W_cmpT, W_isB, W_un, W_tru, W_andT, W_orT, W_notT, W_andV, W_orV, W_notV, W_ife, W_nil, W_cons, W_tup, W_lst, W_addI, W_subI, W_iaddI, W_negI, W_mulI, W_fdivI, W_modI, W_powI, W_cmpI, W_isB_bl, W_isNB, W_isN, W_isntB, W_isntN, W_eqI, W_neI, W_pass, W_brk, W_cont, W_drop, W_rt, W_rtN, W_ifS, W_gsNil, W_gsCons, W_gTup, W_aug, W_call, W_B, RtN_rt, RtN_nx, W_abs, W_intI, W_intB, W_noPart, W_part, W_sl, W_lm, W_lm0, W_iter, W_range1, W_range2, W_forE, W_revE, W_compE, W_yes, W_lenT, W_truB, W_truI, List.append_nil, List.getElem?_cons_zero, List.getElem?_cons_succ, List.set_cons_zero, List.set_cons_succ, List.getElem?_set_self, List.getElem?_set_ne, lt_set, ne_eq, Nat.reduceEqDiff, not_false_eq_true, Nat.reduceLT, Nat.zero_ne_one, Nat.one_ne_zero, Nat.lt_add_one, Nat.zero_lt_succ, startD, List.map_cons, List.map_nil, List.length_cons, List.length_nil, List.cons_append, List.nil_append, Nat.reduceAdd, Nat.reduceSub, Nat.zero_add, List.replicate_succ, List.replicate_zero]
  refine W.mono (plain_law hw hwl 12 d _ _ _ rx hd h1) fun a h2 ⟨F2, ra⟩ => ?_
  try simp only [W_seq, W_asg, W_set, W_V, WV_some, W_C, W_op, W_cmpT, W_isB, W_un, W_tru, W_andT, W_orT, W_notT, W_andV, W_orV, W_notV, W_ife, W_nil, W_cons, W_tup, W_lst, W_addI, W_subI, W_iaddI, W_negI, W_mulI, W_fdivI, W_modI, W_powI, W_cmpI, W_isB_bl, W_isNB, W_isN, W_isntB, W_isntN, W_eqI, W_neI, W_pass, W_brk, W_cont, W_drop, W_rt, W_rtN, W_ifS, W_gsNil, W_gsCons, W_gTup, W_aug, W_call, W_B, RtN_rt, RtN_nx, W_abs, W_intI, W_intB, W_noPart, W_part, W_sl, W_lm, W_lm0, W_iter, W_range1, W_range2, W_forE, W_revE, W_compE, W_yes, W_lenT, W_truB, W_truI, List.append_nil, List.getElem?_cons_zero, List.getElem?_cons_succ, List.set_cons_zero, List.set_cons_succ, List.getElem?_set_self, List.getElem?_set_ne, lt_set, ne_eq, Nat.reduceEqDiff, not_false_eq_true, Nat.reduceLT, Nat.zero_ne_one, Nat.one_ne_zero, Nat.lt_add_one, Nat.zero_lt_succ, startD, List.map_cons, List.map_nil, List.length_cons, List.length_nil, List.cons_append, List.nil_append, Nat.reduceAdd, Nat.reduceSub, Nat.zero_add, List.replicate_succ, List.replicate_zero]
  refine W.mono (plain_law hw hwl 12 d _ _ _ (ry.fr F2) hd (Nat.lt_of_lt_of_le h1 F2.le)) fun b h3 ⟨F3, rb⟩ => ?_
  try simp only [W_seq, W_asg, W_set, W_V, WV_some, W_C, W_op, W_cmpT, W_isB, W_un, W_tru, W_andT, W_orT, W_notT, W_andV, W_orV, W_notV, W_ife, W_nil, W_cons, W_tup, W_lst, W_addI, W_subI, W_iaddI, W_negI, W_mulI, W_fdivI, W_modI, W_powI, W_cmpI, W_isB_bl, W_isNB, W_isN, W_isntB, W_isntN, W_eqI, W_neI, W_pass, W_brk, W_cont, W_drop, W_rt, W_rtN, W_ifS, W_gsNil, W_gsCons, W_gTup, W_aug, W_call, W_B, RtN_rt, RtN_nx, W_abs, W_intI, W_intB, W_noPart, W_part, W_sl, W_lm, W_lm0, W_iter, W_range1, W_range2, W_forE, W_revE, W_compE, W_yes, W_lenT, W_truB, W_truI, List.append_nil, List.getElem?_cons_zero, List.getElem?_cons_succ, List.set_cons_zero, List.set_cons_succ, List.getElem?_set_self, List.getElem?_set_ne, lt_set, ne_eq, Nat.reduceEqDiff, not_false_eq_true, Nat.reduceLT, Nat.zero_ne_one, Nat.one_ne_zero, Nat.lt_add_one, Nat.zero_lt_succ, startD, List.map_cons, List.map_nil, List.length_cons, List.length_nil, List.cons_append, List.nil_append, Nat.reduceAdd, Nat.reduceSub, Nat.zero_add, List.replicate_succ, List.replicate_zero]
  have ra := ra.fr F3
  rw [W_eq (ra.toPy DEEP hs) (rb.toPy DEEP hs) (ra.shaped (by omega)) (rb.shaped (by omega)), SeqAt.eqv_refl _ ra.lay.1]
  try simp only [W_seq, W_asg, W_set, W_V, WV_some, W_C, W_op, W_cmpT, W_isB, W_un, W_tru, W_andT, W_orT, W_notT, W_andV, W_orV, W_notV, W_ife, W_nil, W_cons, W_tup, W_lst, W_addI, W_subI, W_iaddI, W_negI, W_mulI, W_fdivI, W_modI, W_powI, W_cmpI, W_isB_bl, W_isNB, W_isN, W_isntB, W_isntN, W_eqI, W_neI, W_pass, W_brk, W_cont, W_drop, W_rt, W_rtN, W_ifS, W_gsNil, W_gsCons, W_gTup, W_aug, W_call, W_B, RtN_rt, RtN_nx, W_abs, W_intI, W_intB, W_noPart, W_part, W_sl, W_lm, W_lm0, W_iter, W_range1, W_range2, W_forE, W_revE, W_compE, W_yes, W_lenT, W_truB, W_truI, List.append_nil, List.getElem?_cons_zero, List.getElem?_cons_succ, List.set_cons_zero, List.set_cons_succ, List.getElem?_set_self, List.getElem?_set_ne, lt_set, ne_eq, Nat.reduceEqDiff, not_false_eq_true, Nat.reduceLT, Nat.zero_ne_one, Nat.one_ne_zero, Nat.lt_add_one, Nat.zero_lt_succ, startD, List.map_cons, List.map_nil, List.length_cons, List.length_nil, List.cons_append, List.nil_append, Nat.reduceAdd, Nat.reduceSub, Nat.zero_add, List.replicate_succ, List.replicate_zero]
  exact q _ (F2.trans F3)
end Lk00

set_option Elab.async false
set_option linter.all false
set_option autoImplicit false
set_option maxRecDepth 100000
set_option maxHeartbeats 4000000
namespace Lk00
open Dt PySem
/-! ### states, moves, drafts -/
structure Lk where
  key : Int
  amt : Int
  dl : Int
  mine : Bool
def lD (l : Lk) : D := .tup [.int l.key, .int l.amt, .int l.dl, .bl l.mine]
structure Dr where
  own : Int
  oth : Int
  locks : List Lk
  cl : Bool
inductive Mv where
  | lock (k a d : Int)
  | paid (p : Nat) (s : Int)
  | dropped (p : Nat)
  | back (p : Nat)
  | transfer (a : Int)
  | finish
def mD : Mv → D
  | .lock k a d => .tup [.str "lock", .int k, .int a, .int d]
  | .paid p s => .tup [.str "paid", .int (p : Nat), .int s]
  | .dropped p => .tup [.str "dropped", .int (p : Nat)]
  | .back p => .tup [.str "back", .int (p : Nat)]
  | .transfer a => .tup [.str "transfer", .int a]
  | .finish => .tup [.str "finish"]
def keyP (s : Int) : Int := (s * 1103515245 + 12345) % 4294967296
def spend (d : Dr) (sp a : Int) : Bool := !d.cl && (decide (1 ≤ a) && decide (a ≤ d.own + sp))
def mk (ff : Bool) (sp : Int) (d : Dr) : Mv → Option Dr
  | .lock k a dl => if spend d sp a = true ∧ d.locks.length < 8 then some { d with own := d.own - a, locks := d.locks ++ [⟨k, a, dl, ff⟩] } else none
  | .paid p s => match d.locks[p]? with
    | none => none
    | some l => if l.mine = ff ∨ l.key ≠ keyP s then none else some { d with own := d.own + l.amt, locks := d.locks.eraseIdx p }
  | .dropped p => match d.locks[p]? with
    | none => none
    | some l => if l.mine = ff then none else some { d with oth := d.oth + l.amt, locks := d.locks.eraseIdx p }
  | .back p => match d.locks[p]? with
    | none => none
    | some l => if l.mine = ff then some { d with own := d.own + l.amt, locks := d.locks.eraseIdx p } else none
  | .transfer a => if spend d sp a = true then some { d with own := d.own - a, oth := d.oth + a } else none
  | .finish => if d.cl = true ∨ d.locks ≠ [] then none else some { d with cl := true }
def mks (ff : Bool) (sp : Int) : Dr → List Mv → Option Dr
  | d, [] => some d
  | d, m :: ms => (mk ff sp d m).bind fun d' => mks ff sp d' ms
structure Stt where
  ch : Int
  num : Int
  a : Int
  b : Int
  locks : List Lk
  cl : Bool
def sD (s : Stt) : D := .tup [.int s.ch, .int s.num, .int s.a, .int s.b, .tup (s.locks.map lD), .bl s.cl]
def ffP (s : Stt) : Bool := (s.num + 1) % 2 == 1
def start (s : Stt) : Dr := ⟨if ffP s then s.a else s.b, if ffP s then s.b else s.a, s.locks, false⟩
def spP (s : Stt) (c1 c2 : Int) : Int := if ffP s then c1 else c2
def fin' (s : Stt) (d : Dr) : Stt := ⟨s.ch, s.num + 1, if ffP s then d.own else d.oth, if ffP s then d.oth else d.own, d.locks, d.cl⟩
def nx (s : Stt) (ms : List Mv) (c1 c2 : Int) : Option Stt := if s.cl = true then none else (mks (ffP s) (spP s c1 c2) (start s) ms).map (fin' s)
def oD : Option Stt → D
  | none => .non
  | some s => sD s
theorem mk_len {ff : Bool} {sp : Int} {d d' : Dr} {m : Mv} (e : mk ff sp d m = some d') : d'.locks.length ≤ d.locks.length + 1 ∧ (d.locks.length ≤ 8 → d'.locks.length ≤ 8) := by
  cases m <;> simp only [mk] at e
  · split at e <;> cases e
    simp; omega
  · split at e
    · cases e
    · split at e <;> cases e
      simp [List.length_eraseIdx]; split <;> omega
  · split at e
    · cases e
    · split at e <;> cases e
      simp [List.length_eraseIdx]; split <;> omega
  · split at e
    · cases e
    · split at e <;> cases e
      simp [List.length_eraseIdx]; split <;> omega
  · split at e <;> cases e
    exact ⟨by simp, id⟩
  · split at e <;> cases e
    exact ⟨by simp, id⟩
theorem get_push' {h : Hd} {c : Cell} {n : Nat} (e : n = h.length) : (h ++ [c])[n]? = some c := by rw [e]; exact get_push
theorem erase_map {α β : Type} (f : α → β) : ∀ (xs : List α) (p : Nat), (xs.map f).eraseIdx p = (xs.eraseIdx p).map f
  | [], _ => rfl
  | _ :: _, 0 => rfl
  | x :: xs, p + 1 => by simp [erase_map f xs p]
def dF (ff : Bool) (sp : Int) (L : Nat) (d : Dr) : List (String × D) := [("from_first", .bl ff), ("own", .int d.own), ("others", .int d.oth), ("spare", .int sp), ("locks", .ref L), ("closed", .bl d.cl)]
structure AtD (h : Hd) (o L : Nat) (ff : Bool) (sp : Int) (d : Dr) : Prop where
  eo : h[o]? = some (.ins "Draft" (dF ff sp L d))
  eL : h[L]? = some (.lst (d.locks.map lD))
  ne : o ≠ L
  o2 : 2 ≤ o
  l2 : 2 ≤ L
  sz : d.locks.length ≤ 8
section
variable {h : Hd} {o L : Nat} {ff : Bool} {sp : Int} {d : Dr} {Q : D → Hd → Prop}
theorem spend_law {a : Int} (A : AtD h o L ff sp d) (q : Q (.bl (spend d sp a)) h) : W (F_Draft_can_spend [.ref o, .int a]) h Q := by
  unfold F_Draft_can_spend B_Draft_can_spend
  refine w_run rfl ?_
  simp (maxDischargeDepth := 9) only [W_seq, W_asg, W_set, W_V, WV_some, W_C, W_op, W_cmpT, W_isB, W_un, W_tru, W_andT, W_orT, W_notT, W_andV, W_orV, W_notV, W_ife, W_nil, W_cons, W_tup, W_lst, W_addI, W_subI, W_iaddI, W_negI, W_mulI, W_fdivI, W_modI, W_powI, W_cmpI, W_isB_bl, W_isNB, W_isN, W_isntB, W_isntN, W_eqI, W_neI, W_pass, W_brk, W_cont, W_drop, W_rt, W_rtN, W_ifS, W_gsNil, W_gsCons, W_gTup, W_aug, W_call, W_B, RtN_rt, RtN_nx, W_abs, W_intI, W_intB, W_noPart, W_part, W_sl, W_lm, W_lm0, W_iter, W_range1, W_range2, W_forE, W_revE, W_compE, W_yes, W_lenT, W_truB, W_truI, List.append_nil, List.getElem?_cons_zero, List.getElem?_cons_succ, List.set_cons_zero, List.set_cons_succ, List.getElem?_set_self, List.getElem?_set_ne, lt_set, ne_eq, Nat.reduceEqDiff, not_false_eq_true, Nat.reduceLT, Nat.zero_ne_one, Nat.one_ne_zero, Nat.lt_add_one, Nat.zero_lt_succ, startD, List.map_cons, List.map_nil, List.length_cons, List.length_nil, List.cons_append, List.nil_append, Nat.reduceAdd, Nat.reduceSub, Nat.zero_add, List.replicate_succ, List.replicate_zero, W_inSC, List.all_cons, List.all_nil, flatD, List.any_cons, List.any_nil, eqF, Bool.and_true, Bool.or_false, Bool.or_true, Bool.true_or, Bool.false_or, Bool.true_and, Bool.false_and, Option.some.injEq, D.int.injEq, exists_eq_left', exists_eq_left, W_listT, List.set_set, lt_push, len_lt, List.getElem?_append_left, W_fldC, W_setFC, W_clsC, W_methC, W_lenC, W_ixC, W_ixTO, W_isLstC, W_appC, W_listC, W_tupC, W_truC, W_slC, W_slTT, W_addTT, W_addC, W_setIC, W_getIC, W_delC, W_isDctC, W_dgetC, W_dictC, W_dict0, W_eqS, W_neS, W_eqB, W_neB, W_meth, W_make, W_setF, W_augF, W_callK, W_chain, W_chainT, W_del, W_gSub, W_augI, W_get1, W_srcC, WCell_some, WO_some, at0, at1, at2, at3, at4, at5, ix0, ix1, at_nat, memS, lookF, putFD, String.reduceEq, String.reduceBEq, if_true, if_false, Bool.false_eq_true, Option.isNone_none, true_and, and_true, and_self, get_push, isNonD, Bool.not_true, Bool.not_false, cs_from_first, cs_own, cs_others, cs_spare, cs_locks, cs_closed, A.eo, dF]
  unfold spend at q
  cases hc : d.cl
  · simp (maxDischargeDepth := 9) only [hc, Bool.not_false, Bool.true_and, if_true, W_seq, W_asg, W_set, W_V, WV_some, W_C, W_op, W_cmpT, W_isB, W_un, W_tru, W_andT, W_orT, W_notT, W_andV, W_orV, W_notV, W_ife, W_nil, W_cons, W_tup, W_lst, W_addI, W_subI, W_iaddI, W_negI, W_mulI, W_fdivI, W_modI, W_powI, W_cmpI, W_isB_bl, W_isNB, W_isN, W_isntB, W_isntN, W_eqI, W_neI, W_pass, W_brk, W_cont, W_drop, W_rt, W_rtN, W_ifS, W_gsNil, W_gsCons, W_gTup, W_aug, W_call, W_B, RtN_rt, RtN_nx, W_abs, W_intI, W_intB, W_noPart, W_part, W_sl, W_lm, W_lm0, W_iter, W_range1, W_range2, W_forE, W_revE, W_compE, W_yes, W_lenT, W_truB, W_truI, List.append_nil, List.getElem?_cons_zero, List.getElem?_cons_succ, List.set_cons_zero, List.set_cons_succ, List.getElem?_set_self, List.getElem?_set_ne, lt_set, ne_eq, Nat.reduceEqDiff, not_false_eq_true, Nat.reduceLT, Nat.zero_ne_one, Nat.one_ne_zero, Nat.lt_add_one, Nat.zero_lt_succ, startD, List.map_cons, List.map_nil, List.length_cons, List.length_nil, List.cons_append, List.nil_append, Nat.reduceAdd, Nat.reduceSub, Nat.zero_add, List.replicate_succ, List.replicate_zero, W_inSC, List.all_cons, List.all_nil, flatD, List.any_cons, List.any_nil, eqF, Bool.and_true, Bool.or_false, Bool.or_true, Bool.true_or, Bool.false_or, Bool.true_and, Bool.false_and, Option.some.injEq, D.int.injEq, exists_eq_left', exists_eq_left, W_listT, List.set_set, lt_push, len_lt, List.getElem?_append_left, W_fldC, W_setFC, W_clsC, W_methC, W_lenC, W_ixC, W_ixTO, W_isLstC, W_appC, W_listC, W_tupC, W_truC, W_slC, W_slTT, W_addTT, W_addC, W_setIC, W_getIC, W_delC, W_isDctC, W_dgetC, W_dictC, W_dict0, W_eqS, W_neS, W_eqB, W_neB, W_meth, W_make, W_setF, W_augF, W_callK, W_chain, W_chainT, W_del, W_gSub, W_augI, W_get1, W_srcC, WCell_some, WO_some, at0, at1, at2, at3, at4, at5, ix0, ix1, at_nat, memS, lookF, putFD, String.reduceEq, String.reduceBEq, if_true, if_false, Bool.false_eq_true, Option.isNone_none, true_and, and_true, and_self, get_push, isNonD, Bool.not_true, Bool.not_false, cs_from_first, cs_own, cs_others, cs_spare, cs_locks, cs_closed, A.eo, dF] at q ⊢
    by_cases c : 1 ≤ a
    · simp (maxDischargeDepth := 9) only [c, decide_true, Bool.true_and, if_true, W_seq, W_asg, W_set, W_V, WV_some, W_C, W_op, W_cmpT, W_isB, W_un, W_tru, W_andT, W_orT, W_notT, W_andV, W_orV, W_notV, W_ife, W_nil, W_cons, W_tup, W_lst, W_addI, W_subI, W_iaddI, W_negI, W_mulI, W_fdivI, W_modI, W_powI, W_cmpI, W_isB_bl, W_isNB, W_isN, W_isntB, W_isntN, W_eqI, W_neI, W_pass, W_brk, W_cont, W_drop, W_rt, W_rtN, W_ifS, W_gsNil, W_gsCons, W_gTup, W_aug, W_call, W_B, RtN_rt, RtN_nx, W_abs, W_intI, W_intB, W_noPart, W_part, W_sl, W_lm, W_lm0, W_iter, W_range1, W_range2, W_forE, W_revE, W_compE, W_yes, W_lenT, W_truB, W_truI, List.append_nil, List.getElem?_cons_zero, List.getElem?_cons_succ, List.set_cons_zero, List.set_cons_succ, List.getElem?_set_self, List.getElem?_set_ne, lt_set, ne_eq, Nat.reduceEqDiff, not_false_eq_true, Nat.reduceLT, Nat.zero_ne_one, Nat.one_ne_zero, Nat.lt_add_one, Nat.zero_lt_succ, startD, List.map_cons, List.map_nil, List.length_cons, List.length_nil, List.cons_append, List.nil_append, Nat.reduceAdd, Nat.reduceSub, Nat.zero_add, List.replicate_succ, List.replicate_zero, W_inSC, List.all_cons, List.all_nil, flatD, List.any_cons, List.any_nil, eqF, Bool.and_true, Bool.or_false, Bool.or_true, Bool.true_or, Bool.false_or, Bool.true_and, Bool.false_and, Option.some.injEq, D.int.injEq, exists_eq_left', exists_eq_left, W_listT, List.set_set, lt_push, len_lt, List.getElem?_append_left, W_fldC, W_setFC, W_clsC, W_methC, W_lenC, W_ixC, W_ixTO, W_isLstC, W_appC, W_listC, W_tupC, W_truC, W_slC, W_slTT, W_addTT, W_addC, W_setIC, W_getIC, W_delC, W_isDctC, W_dgetC, W_dictC, W_dict0, W_eqS, W_neS, W_eqB, W_neB, W_meth, W_make, W_setF, W_augF, W_callK, W_chain, W_chainT, W_del, W_gSub, W_augI, W_get1, W_srcC, WCell_some, WO_some, at0, at1, at2, at3, at4, at5, ix0, ix1, at_nat, memS, lookF, putFD, String.reduceEq, String.reduceBEq, if_true, if_false, Bool.false_eq_true, Option.isNone_none, true_and, and_true, and_self, get_push, isNonD, Bool.not_true, Bool.not_false, cs_from_first, cs_own, cs_others, cs_spare, cs_locks, cs_closed, A.eo, dF] at q ⊢
      exact q
    · simp (maxDischargeDepth := 9) only [c, decide_false, Bool.false_and, Bool.false_eq_true, if_false, W_seq, W_asg, W_set, W_V, WV_some, W_C, W_op, W_cmpT, W_isB, W_un, W_tru, W_andT, W_orT, W_notT, W_andV, W_orV, W_notV, W_ife, W_nil, W_cons, W_tup, W_lst, W_addI, W_subI, W_iaddI, W_negI, W_mulI, W_fdivI, W_modI, W_powI, W_cmpI, W_isB_bl, W_isNB, W_isN, W_isntB, W_isntN, W_eqI, W_neI, W_pass, W_brk, W_cont, W_drop, W_rt, W_rtN, W_ifS, W_gsNil, W_gsCons, W_gTup, W_aug, W_call, W_B, RtN_rt, RtN_nx, W_abs, W_intI, W_intB, W_noPart, W_part, W_sl, W_lm, W_lm0, W_iter, W_range1, W_range2, W_forE, W_revE, W_compE, W_yes, W_lenT, W_truB, W_truI, List.append_nil, List.getElem?_cons_zero, List.getElem?_cons_succ, List.set_cons_zero, List.set_cons_succ, List.getElem?_set_self, List.getElem?_set_ne, lt_set, ne_eq, Nat.reduceEqDiff, not_false_eq_true, Nat.reduceLT, Nat.zero_ne_one, Nat.one_ne_zero, Nat.lt_add_one, Nat.zero_lt_succ, startD, List.map_cons, List.map_nil, List.length_cons, List.length_nil, List.cons_append, List.nil_append, Nat.reduceAdd, Nat.reduceSub, Nat.zero_add, List.replicate_succ, List.replicate_zero, W_inSC, List.all_cons, List.all_nil, flatD, List.any_cons, List.any_nil, eqF, Bool.and_true, Bool.or_false, Bool.or_true, Bool.true_or, Bool.false_or, Bool.true_and, Bool.false_and, Option.some.injEq, D.int.injEq, exists_eq_left', exists_eq_left, W_listT, List.set_set, lt_push, len_lt, List.getElem?_append_left, W_fldC, W_setFC, W_clsC, W_methC, W_lenC, W_ixC, W_ixTO, W_isLstC, W_appC, W_listC, W_tupC, W_truC, W_slC, W_slTT, W_addTT, W_addC, W_setIC, W_getIC, W_delC, W_isDctC, W_dgetC, W_dictC, W_dict0, W_eqS, W_neS, W_eqB, W_neB, W_meth, W_make, W_setF, W_augF, W_callK, W_chain, W_chainT, W_del, W_gSub, W_augI, W_get1, W_srcC, WCell_some, WO_some, at0, at1, at2, at3, at4, at5, ix0, ix1, at_nat, memS, lookF, putFD, String.reduceEq, String.reduceBEq, if_true, if_false, Bool.false_eq_true, Option.isNone_none, true_and, and_true, and_self, get_push, isNonD, Bool.not_true, Bool.not_false, cs_from_first, cs_own, cs_others, cs_spare, cs_locks, cs_closed] at q ⊢
      exact q
  · simp (maxDischargeDepth := 9) only [hc, Bool.not_true, Bool.false_and, Bool.false_eq_true, if_false, W_seq, W_asg, W_set, W_V, WV_some, W_C, W_op, W_cmpT, W_isB, W_un, W_tru, W_andT, W_orT, W_notT, W_andV, W_orV, W_notV, W_ife, W_nil, W_cons, W_tup, W_lst, W_addI, W_subI, W_iaddI, W_negI, W_mulI, W_fdivI, W_modI, W_powI, W_cmpI, W_isB_bl, W_isNB, W_isN, W_isntB, W_isntN, W_eqI, W_neI, W_pass, W_brk, W_cont, W_drop, W_rt, W_rtN, W_ifS, W_gsNil, W_gsCons, W_gTup, W_aug, W_call, W_B, RtN_rt, RtN_nx, W_abs, W_intI, W_intB, W_noPart, W_part, W_sl, W_lm, W_lm0, W_iter, W_range1, W_range2, W_forE, W_revE, W_compE, W_yes, W_lenT, W_truB, W_truI, List.append_nil, List.getElem?_cons_zero, List.getElem?_cons_succ, List.set_cons_zero, List.set_cons_succ, List.getElem?_set_self, List.getElem?_set_ne, lt_set, ne_eq, Nat.reduceEqDiff, not_false_eq_true, Nat.reduceLT, Nat.zero_ne_one, Nat.one_ne_zero, Nat.lt_add_one, Nat.zero_lt_succ, startD, List.map_cons, List.map_nil, List.length_cons, List.length_nil, List.cons_append, List.nil_append, Nat.reduceAdd, Nat.reduceSub, Nat.zero_add, List.replicate_succ, List.replicate_zero, W_inSC, List.all_cons, List.all_nil, flatD, List.any_cons, List.any_nil, eqF, Bool.and_true, Bool.or_false, Bool.or_true, Bool.true_or, Bool.false_or, Bool.true_and, Bool.false_and, Option.some.injEq, D.int.injEq, exists_eq_left', exists_eq_left, W_listT, List.set_set, lt_push, len_lt, List.getElem?_append_left, W_fldC, W_setFC, W_clsC, W_methC, W_lenC, W_ixC, W_ixTO, W_isLstC, W_appC, W_listC, W_tupC, W_truC, W_slC, W_slTT, W_addTT, W_addC, W_setIC, W_getIC, W_delC, W_isDctC, W_dgetC, W_dictC, W_dict0, W_eqS, W_neS, W_eqB, W_neB, W_meth, W_make, W_setF, W_augF, W_callK, W_chain, W_chainT, W_del, W_gSub, W_augI, W_get1, W_srcC, WCell_some, WO_some, at0, at1, at2, at3, at4, at5, ix0, ix1, at_nat, memS, lookF, putFD, String.reduceEq, String.reduceBEq, if_true, if_false, Bool.false_eq_true, Option.isNone_none, true_and, and_true, and_self, get_push, isNonD, Bool.not_true, Bool.not_false, cs_from_first, cs_own, cs_others, cs_spare, cs_locks, cs_closed] at q ⊢
    exact q
theorem lockat_law {p : Nat} (A : AtD h o L ff sp d) (q : Q (match d.locks[p]? with | some l => lD l | none => .non) h) : W (F_Draft_lock_at [.ref o, .int (p : Nat)]) h Q := by
  unfold F_Draft_lock_at B_Draft_lock_at
  refine w_run rfl ?_
  have hp0 : (0 : Int) ≤ (p : Int) := by omega
  simp (maxDischargeDepth := 9) only [W_seq, W_asg, W_set, W_V, WV_some, W_C, W_op, W_cmpT, W_isB, W_un, W_tru, W_andT, W_orT, W_notT, W_andV, W_orV, W_notV, W_ife, W_nil, W_cons, W_tup, W_lst, W_addI, W_subI, W_iaddI, W_negI, W_mulI, W_fdivI, W_modI, W_powI, W_cmpI, W_isB_bl, W_isNB, W_isN, W_isntB, W_isntN, W_eqI, W_neI, W_pass, W_brk, W_cont, W_drop, W_rt, W_rtN, W_ifS, W_gsNil, W_gsCons, W_gTup, W_aug, W_call, W_B, RtN_rt, RtN_nx, W_abs, W_intI, W_intB, W_noPart, W_part, W_sl, W_lm, W_lm0, W_iter, W_range1, W_range2, W_forE, W_revE, W_compE, W_yes, W_lenT, W_truB, W_truI, List.append_nil, List.getElem?_cons_zero, List.getElem?_cons_succ, List.set_cons_zero, List.set_cons_succ, List.getElem?_set_self, List.getElem?_set_ne, lt_set, ne_eq, Nat.reduceEqDiff, not_false_eq_true, Nat.reduceLT, Nat.zero_ne_one, Nat.one_ne_zero, Nat.lt_add_one, Nat.zero_lt_succ, startD, List.map_cons, List.map_nil, List.length_cons, List.length_nil, List.cons_append, List.nil_append, Nat.reduceAdd, Nat.reduceSub, Nat.zero_add, List.replicate_succ, List.replicate_zero, W_inSC, List.all_cons, List.all_nil, flatD, List.any_cons, List.any_nil, eqF, Bool.and_true, Bool.or_false, Bool.or_true, Bool.true_or, Bool.false_or, Bool.true_and, Bool.false_and, Option.some.injEq, D.int.injEq, exists_eq_left', exists_eq_left, W_listT, List.set_set, lt_push, len_lt, List.getElem?_append_left, W_fldC, W_setFC, W_clsC, W_methC, W_lenC, W_ixC, W_ixTO, W_isLstC, W_appC, W_listC, W_tupC, W_truC, W_slC, W_slTT, W_addTT, W_addC, W_setIC, W_getIC, W_delC, W_isDctC, W_dgetC, W_dictC, W_dict0, W_eqS, W_neS, W_eqB, W_neB, W_meth, W_make, W_setF, W_augF, W_callK, W_chain, W_chainT, W_del, W_gSub, W_augI, W_get1, W_srcC, WCell_some, WO_some, at0, at1, at2, at3, at4, at5, ix0, ix1, at_nat, memS, lookF, putFD, String.reduceEq, String.reduceBEq, if_true, if_false, Bool.false_eq_true, Option.isNone_none, true_and, and_true, and_self, get_push, isNonD, Bool.not_true, Bool.not_false, cs_from_first, cs_own, cs_others, cs_spare, cs_locks, cs_closed, A.eo, A.eL, dF, hp0, decide_true, List.length_map]
  by_cases c : p < d.locks.length
  · have c2 : (p : Int) < (d.locks.length : Int) := by omega
    rw [List.getElem?_eq_getElem c] at q
    simp (maxDischargeDepth := 9) only [c2, decide_true, if_true, W_seq, W_asg, W_set, W_V, WV_some, W_C, W_op, W_cmpT, W_isB, W_un, W_tru, W_andT, W_orT, W_notT, W_andV, W_orV, W_notV, W_ife, W_nil, W_cons, W_tup, W_lst, W_addI, W_subI, W_iaddI, W_negI, W_mulI, W_fdivI, W_modI, W_powI, W_cmpI, W_isB_bl, W_isNB, W_isN, W_isntB, W_isntN, W_eqI, W_neI, W_pass, W_brk, W_cont, W_drop, W_rt, W_rtN, W_ifS, W_gsNil, W_gsCons, W_gTup, W_aug, W_call, W_B, RtN_rt, RtN_nx, W_abs, W_intI, W_intB, W_noPart, W_part, W_sl, W_lm, W_lm0, W_iter, W_range1, W_range2, W_forE, W_revE, W_compE, W_yes, W_lenT, W_truB, W_truI, List.append_nil, List.getElem?_cons_zero, List.getElem?_cons_succ, List.set_cons_zero, List.set_cons_succ, List.getElem?_set_self, List.getElem?_set_ne, lt_set, ne_eq, Nat.reduceEqDiff, not_false_eq_true, Nat.reduceLT, Nat.zero_ne_one, Nat.one_ne_zero, Nat.lt_add_one, Nat.zero_lt_succ, startD, List.map_cons, List.map_nil, List.length_cons, List.length_nil, List.cons_append, List.nil_append, Nat.reduceAdd, Nat.reduceSub, Nat.zero_add, List.replicate_succ, List.replicate_zero, W_inSC, List.all_cons, List.all_nil, flatD, List.any_cons, List.any_nil, eqF, Bool.and_true, Bool.or_false, Bool.or_true, Bool.true_or, Bool.false_or, Bool.true_and, Bool.false_and, Option.some.injEq, D.int.injEq, exists_eq_left', exists_eq_left, W_listT, List.set_set, lt_push, len_lt, List.getElem?_append_left, W_fldC, W_setFC, W_clsC, W_methC, W_lenC, W_ixC, W_ixTO, W_isLstC, W_appC, W_listC, W_tupC, W_truC, W_slC, W_slTT, W_addTT, W_addC, W_setIC, W_getIC, W_delC, W_isDctC, W_dgetC, W_dictC, W_dict0, W_eqS, W_neS, W_eqB, W_neB, W_meth, W_make, W_setF, W_augF, W_callK, W_chain, W_chainT, W_del, W_gSub, W_augI, W_get1, W_srcC, WCell_some, WO_some, at0, at1, at2, at3, at4, at5, ix0, ix1, at_nat, memS, lookF, putFD, String.reduceEq, String.reduceBEq, if_true, if_false, Bool.false_eq_true, Option.isNone_none, true_and, and_true, and_self, get_push, isNonD, Bool.not_true, Bool.not_false, cs_from_first, cs_own, cs_others, cs_spare, cs_locks, cs_closed, A.eo, A.eL, dF, List.getElem?_map, List.getElem?_eq_getElem c, Option.map_some]
    exact q
  · have c2 : ¬ (p : Int) < (d.locks.length : Int) := by omega
    rw [List.getElem?_eq_none (by omega)] at q
    simp (maxDischargeDepth := 9) only [c2, decide_false, Bool.false_eq_true, if_false, W_seq, W_asg, W_set, W_V, WV_some, W_C, W_op, W_cmpT, W_isB, W_un, W_tru, W_andT, W_orT, W_notT, W_andV, W_orV, W_notV, W_ife, W_nil, W_cons, W_tup, W_lst, W_addI, W_subI, W_iaddI, W_negI, W_mulI, W_fdivI, W_modI, W_powI, W_cmpI, W_isB_bl, W_isNB, W_isN, W_isntB, W_isntN, W_eqI, W_neI, W_pass, W_brk, W_cont, W_drop, W_rt, W_rtN, W_ifS, W_gsNil, W_gsCons, W_gTup, W_aug, W_call, W_B, RtN_rt, RtN_nx, W_abs, W_intI, W_intB, W_noPart, W_part, W_sl, W_lm, W_lm0, W_iter, W_range1, W_range2, W_forE, W_revE, W_compE, W_yes, W_lenT, W_truB, W_truI, List.append_nil, List.getElem?_cons_zero, List.getElem?_cons_succ, List.set_cons_zero, List.set_cons_succ, List.getElem?_set_self, List.getElem?_set_ne, lt_set, ne_eq, Nat.reduceEqDiff, not_false_eq_true, Nat.reduceLT, Nat.zero_ne_one, Nat.one_ne_zero, Nat.lt_add_one, Nat.zero_lt_succ, startD, List.map_cons, List.map_nil, List.length_cons, List.length_nil, List.cons_append, List.nil_append, Nat.reduceAdd, Nat.reduceSub, Nat.zero_add, List.replicate_succ, List.replicate_zero, W_inSC, List.all_cons, List.all_nil, flatD, List.any_cons, List.any_nil, eqF, Bool.and_true, Bool.or_false, Bool.or_true, Bool.true_or, Bool.false_or, Bool.true_and, Bool.false_and, Option.some.injEq, D.int.injEq, exists_eq_left', exists_eq_left, W_listT, List.set_set, lt_push, len_lt, List.getElem?_append_left, W_fldC, W_setFC, W_clsC, W_methC, W_lenC, W_ixC, W_ixTO, W_isLstC, W_appC, W_listC, W_tupC, W_truC, W_slC, W_slTT, W_addTT, W_addC, W_setIC, W_getIC, W_delC, W_isDctC, W_dgetC, W_dictC, W_dict0, W_eqS, W_neS, W_eqB, W_neB, W_meth, W_make, W_setF, W_augF, W_callK, W_chain, W_chainT, W_del, W_gSub, W_augI, W_get1, W_srcC, WCell_some, WO_some, at0, at1, at2, at3, at4, at5, ix0, ix1, at_nat, memS, lookF, putFD, String.reduceEq, String.reduceBEq, if_true, if_false, Bool.false_eq_true, Option.isNone_none, true_and, and_true, and_self, get_push, isNonD, Bool.not_true, Bool.not_false, cs_from_first, cs_own, cs_others, cs_spare, cs_locks, cs_closed]
    exact q
theorem put_law {k a dl : Int} (A : AtD h o L ff sp d) (q1 : ∀ d' h', mk ff sp d (.lock k a dl) = some d' → Fr [o, L] h h' → AtD h' o L ff sp d' → Q (.bl true) h') (q0 : mk ff sp d (.lock k a dl) = none → Q (.bl false) h) : W (F_Draft_put_lock [.ref o, .int k, .int a, .int dl]) h Q := by
  unfold F_Draft_put_lock B_Draft_put_lock
  refine w_run rfl ?_
  have lo := get_lt A.eo
  have lL := get_lt A.eL
  have ne := A.ne
  have ne' := A.ne.symm
  simp (maxDischargeDepth := 9) only [W_seq, W_asg, W_set, W_V, WV_some, W_C, W_op, W_cmpT, W_isB, W_un, W_tru, W_andT, W_orT, W_notT, W_andV, W_orV, W_notV, W_ife, W_nil, W_cons, W_tup, W_lst, W_addI, W_subI, W_iaddI, W_negI, W_mulI, W_fdivI, W_modI, W_powI, W_cmpI, W_isB_bl, W_isNB, W_isN, W_isntB, W_isntN, W_eqI, W_neI, W_pass, W_brk, W_cont, W_drop, W_rt, W_rtN, W_ifS, W_gsNil, W_gsCons, W_gTup, W_aug, W_call, W_B, RtN_rt, RtN_nx, W_abs, W_intI, W_intB, W_noPart, W_part, W_sl, W_lm, W_lm0, W_iter, W_range1, W_range2, W_forE, W_revE, W_compE, W_yes, W_lenT, W_truB, W_truI, List.append_nil, List.getElem?_cons_zero, List.getElem?_cons_succ, List.set_cons_zero, List.set_cons_succ, List.getElem?_set_self, List.getElem?_set_ne, lt_set, ne_eq, Nat.reduceEqDiff, not_false_eq_true, Nat.reduceLT, Nat.zero_ne_one, Nat.one_ne_zero, Nat.lt_add_one, Nat.zero_lt_succ, startD, List.map_cons, List.map_nil, List.length_cons, List.length_nil, List.cons_append, List.nil_append, Nat.reduceAdd, Nat.reduceSub, Nat.zero_add, List.replicate_succ, List.replicate_zero, W_inSC, List.all_cons, List.all_nil, flatD, List.any_cons, List.any_nil, eqF, Bool.and_true, Bool.or_false, Bool.or_true, Bool.true_or, Bool.false_or, Bool.true_and, Bool.false_and, Option.some.injEq, D.int.injEq, exists_eq_left', exists_eq_left, W_listT, List.set_set, lt_push, len_lt, List.getElem?_append_left, W_fldC, W_setFC, W_clsC, W_methC, W_lenC, W_ixC, W_ixTO, W_isLstC, W_appC, W_listC, W_tupC, W_truC, W_slC, W_slTT, W_addTT, W_addC, W_setIC, W_getIC, W_delC, W_isDctC, W_dgetC, W_dictC, W_dict0, W_eqS, W_neS, W_eqB, W_neB, W_meth, W_make, W_setF, W_augF, W_callK, W_chain, W_chainT, W_del, W_gSub, W_augI, W_get1, W_srcC, WCell_some, WO_some, at0, at1, at2, at3, at4, at5, ix0, ix1, at_nat, memS, lookF, putFD, String.reduceEq, String.reduceBEq, if_true, if_false, Bool.false_eq_true, Option.isNone_none, true_and, and_true, and_self, get_push, isNonD, Bool.not_true, Bool.not_false, cs_from_first, cs_own, cs_others, cs_spare, cs_locks, cs_closed, A.eo, A.eL, dF]
  refine spend_law A ?_
  simp (maxDischargeDepth := 9) only [W_seq, W_asg, W_set, W_V, WV_some, W_C, W_op, W_cmpT, W_isB, W_un, W_tru, W_andT, W_orT, W_notT, W_andV, W_orV, W_notV, W_ife, W_nil, W_cons, W_tup, W_lst, W_addI, W_subI, W_iaddI, W_negI, W_mulI, W_fdivI, W_modI, W_powI, W_cmpI, W_isB_bl, W_isNB, W_isN, W_isntB, W_isntN, W_eqI, W_neI, W_pass, W_brk, W_cont, W_drop, W_rt, W_rtN, W_ifS, W_gsNil, W_gsCons, W_gTup, W_aug, W_call, W_B, RtN_rt, RtN_nx, W_abs, W_intI, W_intB, W_noPart, W_part, W_sl, W_lm, W_lm0, W_iter, W_range1, W_range2, W_forE, W_revE, W_compE, W_yes, W_lenT, W_truB, W_truI, List.append_nil, List.getElem?_cons_zero, List.getElem?_cons_succ, List.set_cons_zero, List.set_cons_succ, List.getElem?_set_self, List.getElem?_set_ne, lt_set, ne_eq, Nat.reduceEqDiff, not_false_eq_true, Nat.reduceLT, Nat.zero_ne_one, Nat.one_ne_zero, Nat.lt_add_one, Nat.zero_lt_succ, startD, List.map_cons, List.map_nil, List.length_cons, List.length_nil, List.cons_append, List.nil_append, Nat.reduceAdd, Nat.reduceSub, Nat.zero_add, List.replicate_succ, List.replicate_zero, W_inSC, List.all_cons, List.all_nil, flatD, List.any_cons, List.any_nil, eqF, Bool.and_true, Bool.or_false, Bool.or_true, Bool.true_or, Bool.false_or, Bool.true_and, Bool.false_and, Option.some.injEq, D.int.injEq, exists_eq_left', exists_eq_left, W_listT, List.set_set, lt_push, len_lt, List.getElem?_append_left, W_fldC, W_setFC, W_clsC, W_methC, W_lenC, W_ixC, W_ixTO, W_isLstC, W_appC, W_listC, W_tupC, W_truC, W_slC, W_slTT, W_addTT, W_addC, W_setIC, W_getIC, W_delC, W_isDctC, W_dgetC, W_dictC, W_dict0, W_eqS, W_neS, W_eqB, W_neB, W_meth, W_make, W_setF, W_augF, W_callK, W_chain, W_chainT, W_del, W_gSub, W_augI, W_get1, W_srcC, WCell_some, WO_some, at0, at1, at2, at3, at4, at5, ix0, ix1, at_nat, memS, lookF, putFD, String.reduceEq, String.reduceBEq, if_true, if_false, Bool.false_eq_true, Option.isNone_none, true_and, and_true, and_self, get_push, isNonD, Bool.not_true, Bool.not_false, cs_from_first, cs_own, cs_others, cs_spare, cs_locks, cs_closed, A.eo, A.eL, dF]
  cases hs : spend d sp a
  · simp (maxDischargeDepth := 9) only [Bool.not_false, if_true, W_seq, W_asg, W_set, W_V, WV_some, W_C, W_op, W_cmpT, W_isB, W_un, W_tru, W_andT, W_orT, W_notT, W_andV, W_orV, W_notV, W_ife, W_nil, W_cons, W_tup, W_lst, W_addI, W_subI, W_iaddI, W_negI, W_mulI, W_fdivI, W_modI, W_powI, W_cmpI, W_isB_bl, W_isNB, W_isN, W_isntB, W_isntN, W_eqI, W_neI, W_pass, W_brk, W_cont, W_drop, W_rt, W_rtN, W_ifS, W_gsNil, W_gsCons, W_gTup, W_aug, W_call, W_B, RtN_rt, RtN_nx, W_abs, W_intI, W_intB, W_noPart, W_part, W_sl, W_lm, W_lm0, W_iter, W_range1, W_range2, W_forE, W_revE, W_compE, W_yes, W_lenT, W_truB, W_truI, List.append_nil, List.getElem?_cons_zero, List.getElem?_cons_succ, List.set_cons_zero, List.set_cons_succ, List.getElem?_set_self, List.getElem?_set_ne, lt_set, ne_eq, Nat.reduceEqDiff, not_false_eq_true, Nat.reduceLT, Nat.zero_ne_one, Nat.one_ne_zero, Nat.lt_add_one, Nat.zero_lt_succ, startD, List.map_cons, List.map_nil, List.length_cons, List.length_nil, List.cons_append, List.nil_append, Nat.reduceAdd, Nat.reduceSub, Nat.zero_add, List.replicate_succ, List.replicate_zero, W_inSC, List.all_cons, List.all_nil, flatD, List.any_cons, List.any_nil, eqF, Bool.and_true, Bool.or_false, Bool.or_true, Bool.true_or, Bool.false_or, Bool.true_and, Bool.false_and, Option.some.injEq, D.int.injEq, exists_eq_left', exists_eq_left, W_listT, List.set_set, lt_push, len_lt, List.getElem?_append_left, W_fldC, W_setFC, W_clsC, W_methC, W_lenC, W_ixC, W_ixTO, W_isLstC, W_appC, W_listC, W_tupC, W_truC, W_slC, W_slTT, W_addTT, W_addC, W_setIC, W_getIC, W_delC, W_isDctC, W_dgetC, W_dictC, W_dict0, W_eqS, W_neS, W_eqB, W_neB, W_meth, W_make, W_setF, W_augF, W_callK, W_chain, W_chainT, W_del, W_gSub, W_augI, W_get1, W_srcC, WCell_some, WO_some, at0, at1, at2, at3, at4, at5, ix0, ix1, at_nat, memS, lookF, putFD, String.reduceEq, String.reduceBEq, if_true, if_false, Bool.false_eq_true, Option.isNone_none, true_and, and_true, and_self, get_push, isNonD, Bool.not_true, Bool.not_false, cs_from_first, cs_own, cs_others, cs_spare, cs_locks, cs_closed]
    exact q0 (by simp [mk, hs])
  · simp (maxDischargeDepth := 9) only [W_seq, W_asg, W_set, W_V, WV_some, W_C, W_op, W_cmpT, W_isB, W_un, W_tru, W_andT, W_orT, W_notT, W_andV, W_orV, W_notV, W_ife, W_nil, W_cons, W_tup, W_lst, W_addI, W_subI, W_iaddI, W_negI, W_mulI, W_fdivI, W_modI, W_powI, W_cmpI, W_isB_bl, W_isNB, W_isN, W_isntB, W_isntN, W_eqI, W_neI, W_pass, W_brk, W_cont, W_drop, W_rt, W_rtN, W_ifS, W_gsNil, W_gsCons, W_gTup, W_aug, W_call, W_B, RtN_rt, RtN_nx, W_abs, W_intI, W_intB, W_noPart, W_part, W_sl, W_lm, W_lm0, W_iter, W_range1, W_range2, W_forE, W_revE, W_compE, W_yes, W_lenT, W_truB, W_truI, List.append_nil, List.getElem?_cons_zero, List.getElem?_cons_succ, List.set_cons_zero, List.set_cons_succ, List.getElem?_set_self, List.getElem?_set_ne, lt_set, ne_eq, Nat.reduceEqDiff, not_false_eq_true, Nat.reduceLT, Nat.zero_ne_one, Nat.one_ne_zero, Nat.lt_add_one, Nat.zero_lt_succ, startD, List.map_cons, List.map_nil, List.length_cons, List.length_nil, List.cons_append, List.nil_append, Nat.reduceAdd, Nat.reduceSub, Nat.zero_add, List.replicate_succ, List.replicate_zero, W_inSC, List.all_cons, List.all_nil, flatD, List.any_cons, List.any_nil, eqF, Bool.and_true, Bool.or_false, Bool.or_true, Bool.true_or, Bool.false_or, Bool.true_and, Bool.false_and, Option.some.injEq, D.int.injEq, exists_eq_left', exists_eq_left, W_listT, List.set_set, lt_push, len_lt, List.getElem?_append_left, W_fldC, W_setFC, W_clsC, W_methC, W_lenC, W_ixC, W_ixTO, W_isLstC, W_appC, W_listC, W_tupC, W_truC, W_slC, W_slTT, W_addTT, W_addC, W_setIC, W_getIC, W_delC, W_isDctC, W_dgetC, W_dictC, W_dict0, W_eqS, W_neS, W_eqB, W_neB, W_meth, W_make, W_setF, W_augF, W_callK, W_chain, W_chainT, W_del, W_gSub, W_augI, W_get1, W_srcC, WCell_some, WO_some, at0, at1, at2, at3, at4, at5, ix0, ix1, at_nat, memS, lookF, putFD, String.reduceEq, String.reduceBEq, if_true, if_false, Bool.false_eq_true, Option.isNone_none, true_and, and_true, and_self, get_push, isNonD, Bool.not_true, Bool.not_false, cs_from_first, cs_own, cs_others, cs_spare, cs_locks, cs_closed, A.eo, A.eL, dF, List.length_map, Bool.not_true]
    by_cases c : d.locks.length < 8
    · have c2 : ¬ (8 : Int) ≤ (d.locks.length : Int) := by omega
      simp (maxDischargeDepth := 9) only [c2, decide_false, Bool.false_eq_true, if_false, W_seq, W_asg, W_set, W_V, WV_some, W_C, W_op, W_cmpT, W_isB, W_un, W_tru, W_andT, W_orT, W_notT, W_andV, W_orV, W_notV, W_ife, W_nil, W_cons, W_tup, W_lst, W_addI, W_subI, W_iaddI, W_negI, W_mulI, W_fdivI, W_modI, W_powI, W_cmpI, W_isB_bl, W_isNB, W_isN, W_isntB, W_isntN, W_eqI, W_neI, W_pass, W_brk, W_cont, W_drop, W_rt, W_rtN, W_ifS, W_gsNil, W_gsCons, W_gTup, W_aug, W_call, W_B, RtN_rt, RtN_nx, W_abs, W_intI, W_intB, W_noPart, W_part, W_sl, W_lm, W_lm0, W_iter, W_range1, W_range2, W_forE, W_revE, W_compE, W_yes, W_lenT, W_truB, W_truI, List.append_nil, List.getElem?_cons_zero, List.getElem?_cons_succ, List.set_cons_zero, List.set_cons_succ, List.getElem?_set_self, List.getElem?_set_ne, lt_set, ne_eq, Nat.reduceEqDiff, not_false_eq_true, Nat.reduceLT, Nat.zero_ne_one, Nat.one_ne_zero, Nat.lt_add_one, Nat.zero_lt_succ, startD, List.map_cons, List.map_nil, List.length_cons, List.length_nil, List.cons_append, List.nil_append, Nat.reduceAdd, Nat.reduceSub, Nat.zero_add, List.replicate_succ, List.replicate_zero, W_inSC, List.all_cons, List.all_nil, flatD, List.any_cons, List.any_nil, eqF, Bool.and_true, Bool.or_false, Bool.or_true, Bool.true_or, Bool.false_or, Bool.true_and, Bool.false_and, Option.some.injEq, D.int.injEq, exists_eq_left', exists_eq_left, W_listT, List.set_set, lt_push, len_lt, List.getElem?_append_left, W_fldC, W_setFC, W_clsC, W_methC, W_lenC, W_ixC, W_ixTO, W_isLstC, W_appC, W_listC, W_tupC, W_truC, W_slC, W_slTT, W_addTT, W_addC, W_setIC, W_getIC, W_delC, W_isDctC, W_dgetC, W_dictC, W_dict0, W_eqS, W_neS, W_eqB, W_neB, W_meth, W_make, W_setF, W_augF, W_callK, W_chain, W_chainT, W_del, W_gSub, W_augI, W_get1, W_srcC, WCell_some, WO_some, at0, at1, at2, at3, at4, at5, ix0, ix1, at_nat, memS, lookF, putFD, String.reduceEq, String.reduceBEq, if_true, if_false, Bool.false_eq_true, Option.isNone_none, true_and, and_true, and_self, get_push, isNonD, Bool.not_true, Bool.not_false, cs_from_first, cs_own, cs_others, cs_spare, cs_locks, cs_closed, A.eo, A.eL, dF, lo, lL, ne, ne', List.length_map, List.length_set]
      refine ⟨by decide, by show _ < 1000000; omega, ?_⟩
      refine q1 { d with own := d.own - a, locks := d.locks ++ [⟨k, a, dl, ff⟩] } _ (by simp [mk, hs, c]) ((Fr.write (n := o) (by simp) (by have := A.o2; omega)).trans (Fr.write (n := L) (by simp) (by have := A.l2; omega))) ⟨?_, ?_, A.ne, A.o2, A.l2, by simp; omega⟩
      · rw [List.getElem?_set_ne ne', List.getElem?_set_self lo]; rfl
      · rw [get_set (h := h.set o _) (by rw [List.getElem?_set_ne ne]; exact A.eL)]; simp [lD]
    · have c2 : (8 : Int) ≤ (d.locks.length : Int) := by omega
      simp (maxDischargeDepth := 9) only [c2, decide_true, if_true, W_seq, W_asg, W_set, W_V, WV_some, W_C, W_op, W_cmpT, W_isB, W_un, W_tru, W_andT, W_orT, W_notT, W_andV, W_orV, W_notV, W_ife, W_nil, W_cons, W_tup, W_lst, W_addI, W_subI, W_iaddI, W_negI, W_mulI, W_fdivI, W_modI, W_powI, W_cmpI, W_isB_bl, W_isNB, W_isN, W_isntB, W_isntN, W_eqI, W_neI, W_pass, W_brk, W_cont, W_drop, W_rt, W_rtN, W_ifS, W_gsNil, W_gsCons, W_gTup, W_aug, W_call, W_B, RtN_rt, RtN_nx, W_abs, W_intI, W_intB, W_noPart, W_part, W_sl, W_lm, W_lm0, W_iter, W_range1, W_range2, W_forE, W_revE, W_compE, W_yes, W_lenT, W_truB, W_truI, List.append_nil, List.getElem?_cons_zero, List.getElem?_cons_succ, List.set_cons_zero, List.set_cons_succ, List.getElem?_set_self, List.getElem?_set_ne, lt_set, ne_eq, Nat.reduceEqDiff, not_false_eq_true, Nat.reduceLT, Nat.zero_ne_one, Nat.one_ne_zero, Nat.lt_add_one, Nat.zero_lt_succ, startD, List.map_cons, List.map_nil, List.length_cons, List.length_nil, List.cons_append, List.nil_append, Nat.reduceAdd, Nat.reduceSub, Nat.zero_add, List.replicate_succ, List.replicate_zero, W_inSC, List.all_cons, List.all_nil, flatD, List.any_cons, List.any_nil, eqF, Bool.and_true, Bool.or_false, Bool.or_true, Bool.true_or, Bool.false_or, Bool.true_and, Bool.false_and, Option.some.injEq, D.int.injEq, exists_eq_left', exists_eq_left, W_listT, List.set_set, lt_push, len_lt, List.getElem?_append_left, W_fldC, W_setFC, W_clsC, W_methC, W_lenC, W_ixC, W_ixTO, W_isLstC, W_appC, W_listC, W_tupC, W_truC, W_slC, W_slTT, W_addTT, W_addC, W_setIC, W_getIC, W_delC, W_isDctC, W_dgetC, W_dictC, W_dict0, W_eqS, W_neS, W_eqB, W_neB, W_meth, W_make, W_setF, W_augF, W_callK, W_chain, W_chainT, W_del, W_gSub, W_augI, W_get1, W_srcC, WCell_some, WO_some, at0, at1, at2, at3, at4, at5, ix0, ix1, at_nat, memS, lookF, putFD, String.reduceEq, String.reduceBEq, if_true, if_false, Bool.false_eq_true, Option.isNone_none, true_and, and_true, and_self, get_push, isNonD, Bool.not_true, Bool.not_false, cs_from_first, cs_own, cs_others, cs_spare, cs_locks, cs_closed]
      exact q0 (by simp [mk, c])
theorem hand_law {a : Int} (A : AtD h o L ff sp d) (q1 : ∀ d' h', mk ff sp d (.transfer a) = some d' → Fr [o, L] h h' → AtD h' o L ff sp d' → Q (.bl true) h') (q0 : mk ff sp d (.transfer a) = none → Q (.bl false) h) : W (F_Draft_hand_over [.ref o, .int a]) h Q := by
  unfold F_Draft_hand_over B_Draft_hand_over
  refine w_run rfl ?_
  have lo := get_lt A.eo
  have ne := A.ne
  simp (maxDischargeDepth := 9) only [W_seq, W_asg, W_set, W_V, WV_some, W_C, W_op, W_cmpT, W_isB, W_un, W_tru, W_andT, W_orT, W_notT, W_andV, W_orV, W_notV, W_ife, W_nil, W_cons, W_tup, W_lst, W_addI, W_subI, W_iaddI, W_negI, W_mulI, W_fdivI, W_modI, W_powI, W_cmpI, W_isB_bl, W_isNB, W_isN, W_isntB, W_isntN, W_eqI, W_neI, W_pass, W_brk, W_cont, W_drop, W_rt, W_rtN, W_ifS, W_gsNil, W_gsCons, W_gTup, W_aug, W_call, W_B, RtN_rt, RtN_nx, W_abs, W_intI, W_intB, W_noPart, W_part, W_sl, W_lm, W_lm0, W_iter, W_range1, W_range2, W_forE, W_revE, W_compE, W_yes, W_lenT, W_truB, W_truI, List.append_nil, List.getElem?_cons_zero, List.getElem?_cons_succ, List.set_cons_zero, List.set_cons_succ, List.getElem?_set_self, List.getElem?_set_ne, lt_set, ne_eq, Nat.reduceEqDiff, not_false_eq_true, Nat.reduceLT, Nat.zero_ne_one, Nat.one_ne_zero, Nat.lt_add_one, Nat.zero_lt_succ, startD, List.map_cons, List.map_nil, List.length_cons, List.length_nil, List.cons_append, List.nil_append, Nat.reduceAdd, Nat.reduceSub, Nat.zero_add, List.replicate_succ, List.replicate_zero, W_inSC, List.all_cons, List.all_nil, flatD, List.any_cons, List.any_nil, eqF, Bool.and_true, Bool.or_false, Bool.or_true, Bool.true_or, Bool.false_or, Bool.true_and, Bool.false_and, Option.some.injEq, D.int.injEq, exists_eq_left', exists_eq_left, W_listT, List.set_set, lt_push, len_lt, List.getElem?_append_left, W_fldC, W_setFC, W_clsC, W_methC, W_lenC, W_ixC, W_ixTO, W_isLstC, W_appC, W_listC, W_tupC, W_truC, W_slC, W_slTT, W_addTT, W_addC, W_setIC, W_getIC, W_delC, W_isDctC, W_dgetC, W_dictC, W_dict0, W_eqS, W_neS, W_eqB, W_neB, W_meth, W_make, W_setF, W_augF, W_callK, W_chain, W_chainT, W_del, W_gSub, W_augI, W_get1, W_srcC, WCell_some, WO_some, at0, at1, at2, at3, at4, at5, ix0, ix1, at_nat, memS, lookF, putFD, String.reduceEq, String.reduceBEq, if_true, if_false, Bool.false_eq_true, Option.isNone_none, true_and, and_true, and_self, get_push, isNonD, Bool.not_true, Bool.not_false, cs_from_first, cs_own, cs_others, cs_spare, cs_locks, cs_closed, A.eo, A.eL, dF]
  refine spend_law A ?_
  simp (maxDischargeDepth := 9) only [W_seq, W_asg, W_set, W_V, WV_some, W_C, W_op, W_cmpT, W_isB, W_un, W_tru, W_andT, W_orT, W_notT, W_andV, W_orV, W_notV, W_ife, W_nil, W_cons, W_tup, W_lst, W_addI, W_subI, W_iaddI, W_negI, W_mulI, W_fdivI, W_modI, W_powI, W_cmpI, W_isB_bl, W_isNB, W_isN, W_isntB, W_isntN, W_eqI, W_neI, W_pass, W_brk, W_cont, W_drop, W_rt, W_rtN, W_ifS, W_gsNil, W_gsCons, W_gTup, W_aug, W_call, W_B, RtN_rt, RtN_nx, W_abs, W_intI, W_intB, W_noPart, W_part, W_sl, W_lm, W_lm0, W_iter, W_range1, W_range2, W_forE, W_revE, W_compE, W_yes, W_lenT, W_truB, W_truI, List.append_nil, List.getElem?_cons_zero, List.getElem?_cons_succ, List.set_cons_zero, List.set_cons_succ, List.getElem?_set_self, List.getElem?_set_ne, lt_set, ne_eq, Nat.reduceEqDiff, not_false_eq_true, Nat.reduceLT, Nat.zero_ne_one, Nat.one_ne_zero, Nat.lt_add_one, Nat.zero_lt_succ, startD, List.map_cons, List.map_nil, List.length_cons, List.length_nil, List.cons_append, List.nil_append, Nat.reduceAdd, Nat.reduceSub, Nat.zero_add, List.replicate_succ, List.replicate_zero, W_inSC, List.all_cons, List.all_nil, flatD, List.any_cons, List.any_nil, eqF, Bool.and_true, Bool.or_false, Bool.or_true, Bool.true_or, Bool.false_or, Bool.true_and, Bool.false_and, Option.some.injEq, D.int.injEq, exists_eq_left', exists_eq_left, W_listT, List.set_set, lt_push, len_lt, List.getElem?_append_left, W_fldC, W_setFC, W_clsC, W_methC, W_lenC, W_ixC, W_ixTO, W_isLstC, W_appC, W_listC, W_tupC, W_truC, W_slC, W_slTT, W_addTT, W_addC, W_setIC, W_getIC, W_delC, W_isDctC, W_dgetC, W_dictC, W_dict0, W_eqS, W_neS, W_eqB, W_neB, W_meth, W_make, W_setF, W_augF, W_callK, W_chain, W_chainT, W_del, W_gSub, W_augI, W_get1, W_srcC, WCell_some, WO_some, at0, at1, at2, at3, at4, at5, ix0, ix1, at_nat, memS, lookF, putFD, String.reduceEq, String.reduceBEq, if_true, if_false, Bool.false_eq_true, Option.isNone_none, true_and, and_true, and_self, get_push, isNonD, Bool.not_true, Bool.not_false, cs_from_first, cs_own, cs_others, cs_spare, cs_locks, cs_closed, A.eo, A.eL, dF]
  cases hs : spend d sp a
  · simp (maxDischargeDepth := 9) only [Bool.not_false, if_true, W_seq, W_asg, W_set, W_V, WV_some, W_C, W_op, W_cmpT, W_isB, W_un, W_tru, W_andT, W_orT, W_notT, W_andV, W_orV, W_notV, W_ife, W_nil, W_cons, W_tup, W_lst, W_addI, W_subI, W_iaddI, W_negI, W_mulI, W_fdivI, W_modI, W_powI, W_cmpI, W_isB_bl, W_isNB, W_isN, W_isntB, W_isntN, W_eqI, W_neI, W_pass, W_brk, W_cont, W_drop, W_rt, W_rtN, W_ifS, W_gsNil, W_gsCons, W_gTup, W_aug, W_call, W_B, RtN_rt, RtN_nx, W_abs, W_intI, W_intB, W_noPart, W_part, W_sl, W_lm, W_lm0, W_iter, W_range1, W_range2, W_forE, W_revE, W_compE, W_yes, W_lenT, W_truB, W_truI, List.append_nil, List.getElem?_cons_zero, List.getElem?_cons_succ, List.set_cons_zero, List.set_cons_succ, List.getElem?_set_self, List.getElem?_set_ne, lt_set, ne_eq, Nat.reduceEqDiff, not_false_eq_true, Nat.reduceLT, Nat.zero_ne_one, Nat.one_ne_zero, Nat.lt_add_one, Nat.zero_lt_succ, startD, List.map_cons, List.map_nil, List.length_cons, List.length_nil, List.cons_append, List.nil_append, Nat.reduceAdd, Nat.reduceSub, Nat.zero_add, List.replicate_succ, List.replicate_zero, W_inSC, List.all_cons, List.all_nil, flatD, List.any_cons, List.any_nil, eqF, Bool.and_true, Bool.or_false, Bool.or_true, Bool.true_or, Bool.false_or, Bool.true_and, Bool.false_and, Option.some.injEq, D.int.injEq, exists_eq_left', exists_eq_left, W_listT, List.set_set, lt_push, len_lt, List.getElem?_append_left, W_fldC, W_setFC, W_clsC, W_methC, W_lenC, W_ixC, W_ixTO, W_isLstC, W_appC, W_listC, W_tupC, W_truC, W_slC, W_slTT, W_addTT, W_addC, W_setIC, W_getIC, W_delC, W_isDctC, W_dgetC, W_dictC, W_dict0, W_eqS, W_neS, W_eqB, W_neB, W_meth, W_make, W_setF, W_augF, W_callK, W_chain, W_chainT, W_del, W_gSub, W_augI, W_get1, W_srcC, WCell_some, WO_some, at0, at1, at2, at3, at4, at5, ix0, ix1, at_nat, memS, lookF, putFD, String.reduceEq, String.reduceBEq, if_true, if_false, Bool.false_eq_true, Option.isNone_none, true_and, and_true, and_self, get_push, isNonD, Bool.not_true, Bool.not_false, cs_from_first, cs_own, cs_others, cs_spare, cs_locks, cs_closed]
    exact q0 (by simp [mk, hs])
  · simp (maxDischargeDepth := 9) only [W_seq, W_asg, W_set, W_V, WV_some, W_C, W_op, W_cmpT, W_isB, W_un, W_tru, W_andT, W_orT, W_notT, W_andV, W_orV, W_notV, W_ife, W_nil, W_cons, W_tup, W_lst, W_addI, W_subI, W_iaddI, W_negI, W_mulI, W_fdivI, W_modI, W_powI, W_cmpI, W_isB_bl, W_isNB, W_isN, W_isntB, W_isntN, W_eqI, W_neI, W_pass, W_brk, W_cont, W_drop, W_rt, W_rtN, W_ifS, W_gsNil, W_gsCons, W_gTup, W_aug, W_call, W_B, RtN_rt, RtN_nx, W_abs, W_intI, W_intB, W_noPart, W_part, W_sl, W_lm, W_lm0, W_iter, W_range1, W_range2, W_forE, W_revE, W_compE, W_yes, W_lenT, W_truB, W_truI, List.append_nil, List.getElem?_cons_zero, List.getElem?_cons_succ, List.set_cons_zero, List.set_cons_succ, List.getElem?_set_self, List.getElem?_set_ne, lt_set, ne_eq, Nat.reduceEqDiff, not_false_eq_true, Nat.reduceLT, Nat.zero_ne_one, Nat.one_ne_zero, Nat.lt_add_one, Nat.zero_lt_succ, startD, List.map_cons, List.map_nil, List.length_cons, List.length_nil, List.cons_append, List.nil_append, Nat.reduceAdd, Nat.reduceSub, Nat.zero_add, List.replicate_succ, List.replicate_zero, W_inSC, List.all_cons, List.all_nil, flatD, List.any_cons, List.any_nil, eqF, Bool.and_true, Bool.or_false, Bool.or_true, Bool.true_or, Bool.false_or, Bool.true_and, Bool.false_and, Option.some.injEq, D.int.injEq, exists_eq_left', exists_eq_left, W_listT, List.set_set, lt_push, len_lt, List.getElem?_append_left, W_fldC, W_setFC, W_clsC, W_methC, W_lenC, W_ixC, W_ixTO, W_isLstC, W_appC, W_listC, W_tupC, W_truC, W_slC, W_slTT, W_addTT, W_addC, W_setIC, W_getIC, W_delC, W_isDctC, W_dgetC, W_dictC, W_dict0, W_eqS, W_neS, W_eqB, W_neB, W_meth, W_make, W_setF, W_augF, W_callK, W_chain, W_chainT, W_del, W_gSub, W_augI, W_get1, W_srcC, WCell_some, WO_some, at0, at1, at2, at3, at4, at5, ix0, ix1, at_nat, memS, lookF, putFD, String.reduceEq, String.reduceBEq, if_true, if_false, Bool.false_eq_true, Option.isNone_none, true_and, and_true, and_self, get_push, isNonD, Bool.not_true, Bool.not_false, cs_from_first, cs_own, cs_others, cs_spare, cs_locks, cs_closed, A.eo, A.eL, dF, Bool.not_true, lo, List.length_set]
    refine q1 { d with own := d.own - a, oth := d.oth + a } _ (by simp [mk, hs]) (Fr.write (by simp) (by have := A.o2; omega)) ⟨?_, ?_, A.ne, A.o2, A.l2, A.sz⟩
    · rw [List.getElem?_set_self lo]; rfl
    · rw [List.getElem?_set_ne ne]; exact A.eL
theorem key_law {s : Int} (q : Q (.int (keyP s)) h) : W (F_key_of [.int s]) h Q := by
  unfold F_key_of B_key_of
  refine w_run rfl ?_
  simp (maxDischargeDepth := 9) only [W_seq, W_asg, W_set, W_V, WV_some, W_C, W_op, W_cmpT, W_isB, W_un, W_tru, W_andT, W_orT, W_notT, W_andV, W_orV, W_notV, W_ife, W_nil, W_cons, W_tup, W_lst, W_addI, W_subI, W_iaddI, W_negI, W_mulI, W_fdivI, W_modI, W_powI, W_cmpI, W_isB_bl, W_isNB, W_isN, W_isntB, W_isntN, W_eqI, W_neI, W_pass, W_brk, W_cont, W_drop, W_rt, W_rtN, W_ifS, W_gsNil, W_gsCons, W_gTup, W_aug, W_call, W_B, RtN_rt, RtN_nx, W_abs, W_intI, W_intB, W_noPart, W_part, W_sl, W_lm, W_lm0, W_iter, W_range1, W_range2, W_forE, W_revE, W_compE, W_yes, W_lenT, W_truB, W_truI, List.append_nil, List.getElem?_cons_zero, List.getElem?_cons_succ, List.set_cons_zero, List.set_cons_succ, List.getElem?_set_self, List.getElem?_set_ne, lt_set, ne_eq, Nat.reduceEqDiff, not_false_eq_true, Nat.reduceLT, Nat.zero_ne_one, Nat.one_ne_zero, Nat.lt_add_one, Nat.zero_lt_succ, startD, List.map_cons, List.map_nil, List.length_cons, List.length_nil, List.cons_append, List.nil_append, Nat.reduceAdd, Nat.reduceSub, Nat.zero_add, List.replicate_succ, List.replicate_zero, W_inSC, List.all_cons, List.all_nil, flatD, List.any_cons, List.any_nil, eqF, Bool.and_true, Bool.or_false, Bool.or_true, Bool.true_or, Bool.false_or, Bool.true_and, Bool.false_and, Option.some.injEq, D.int.injEq, exists_eq_left', exists_eq_left, W_listT, List.set_set, lt_push, len_lt, List.getElem?_append_left, W_fldC, W_setFC, W_clsC, W_methC, W_lenC, W_ixC, W_ixTO, W_isLstC, W_appC, W_listC, W_tupC, W_truC, W_slC, W_slTT, W_addTT, W_addC, W_setIC, W_getIC, W_delC, W_isDctC, W_dgetC, W_dictC, W_dict0, W_eqS, W_neS, W_eqB, W_neB, W_meth, W_make, W_setF, W_augF, W_callK, W_chain, W_chainT, W_del, W_gSub, W_augI, W_get1, W_srcC, WCell_some, WO_some, at0, at1, at2, at3, at4, at5, ix0, ix1, at_nat, memS, lookF, putFD, String.reduceEq, String.reduceBEq, if_true, if_false, Bool.false_eq_true, Option.isNone_none, true_and, and_true, and_self, get_push, isNonD, Bool.not_true, Bool.not_false, cs_from_first, cs_own, cs_others, cs_spare, cs_locks, cs_closed]
  exact ⟨.inr (by decide), by decide, q⟩
/-- a lock taken out -/
theorem erase_at {p : Nat} (A : AtD h o L ff sp d) (hp : p < d.locks.length) (w : Int) (b : Bool) :
    Fr [o, L] h ((h.set L (.lst ((d.locks.map lD).eraseIdx p))).set o (.ins "Draft" (dF ff sp L (if b then { d with own := w } else { d with oth := w })))) ∧
    AtD ((h.set L (.lst ((d.locks.map lD).eraseIdx p))).set o (.ins "Draft" (dF ff sp L (if b then { d with own := w } else { d with oth := w })))) o L ff sp (if b then { d with own := w, locks := d.locks.eraseIdx p } else { d with oth := w, locks := d.locks.eraseIdx p }) := by
  have lo := get_lt A.eo
  refine ⟨(Fr.write (by simp) (by have := A.l2; omega)).trans (Fr.write (by simp) (by have := A.o2; omega)), ?_, ?_, A.ne, A.o2, A.l2, ?_⟩
  · rw [List.getElem?_set_self (by rw [List.length_set]; exact lo)]; cases b <;> rfl
  · rw [List.getElem?_set_ne A.ne, get_set A.eL]; cases b <;> simp [erase_map]
  · have := A.sz
    cases b <;> simp [List.length_eraseIdx] <;> split <;> omega
theorem drop_law {p : Nat} (A : AtD h o L ff sp d) (q1 : ∀ d' h', mk ff sp d (.dropped p) = some d' → Fr [o, L] h h' → AtD h' o L ff sp d' → Q (.bl true) h') (q0 : mk ff sp d (.dropped p) = none → Q (.bl false) h) : W (F_Draft_drop_lock [.ref o, .int (p : Nat)]) h Q := by
  unfold F_Draft_drop_lock B_Draft_drop_lock
  refine w_run rfl ?_
  have lo := get_lt A.eo
  have ne := A.ne
  have ne' := A.ne.symm
  simp (maxDischargeDepth := 9) only [W_seq, W_asg, W_set, W_V, WV_some, W_C, W_op, W_cmpT, W_isB, W_un, W_tru, W_andT, W_orT, W_notT, W_andV, W_orV, W_notV, W_ife, W_nil, W_cons, W_tup, W_lst, W_addI, W_subI, W_iaddI, W_negI, W_mulI, W_fdivI, W_modI, W_powI, W_cmpI, W_isB_bl, W_isNB, W_isN, W_isntB, W_isntN, W_eqI, W_neI, W_pass, W_brk, W_cont, W_drop, W_rt, W_rtN, W_ifS, W_gsNil, W_gsCons, W_gTup, W_aug, W_call, W_B, RtN_rt, RtN_nx, W_abs, W_intI, W_intB, W_noPart, W_part, W_sl, W_lm, W_lm0, W_iter, W_range1, W_range2, W_forE, W_revE, W_compE, W_yes, W_lenT, W_truB, W_truI, List.append_nil, List.getElem?_cons_zero, List.getElem?_cons_succ, List.set_cons_zero, List.set_cons_succ, List.getElem?_set_self, List.getElem?_set_ne, lt_set, ne_eq, Nat.reduceEqDiff, not_false_eq_true, Nat.reduceLT, Nat.zero_ne_one, Nat.one_ne_zero, Nat.lt_add_one, Nat.zero_lt_succ, startD, List.map_cons, List.map_nil, List.length_cons, List.length_nil, List.cons_append, List.nil_append, Nat.reduceAdd, Nat.reduceSub, Nat.zero_add, List.replicate_succ, List.replicate_zero, W_inSC, List.all_cons, List.all_nil, flatD, List.any_cons, List.any_nil, eqF, Bool.and_true, Bool.or_false, Bool.or_true, Bool.true_or, Bool.false_or, Bool.true_and, Bool.false_and, Option.some.injEq, D.int.injEq, exists_eq_left', exists_eq_left, W_listT, List.set_set, lt_push, len_lt, List.getElem?_append_left, W_fldC, W_setFC, W_clsC, W_methC, W_lenC, W_ixC, W_ixTO, W_isLstC, W_appC, W_listC, W_tupC, W_truC, W_slC, W_slTT, W_addTT, W_addC, W_setIC, W_getIC, W_delC, W_isDctC, W_dgetC, W_dictC, W_dict0, W_eqS, W_neS, W_eqB, W_neB, W_meth, W_make, W_setF, W_augF, W_callK, W_chain, W_chainT, W_del, W_gSub, W_augI, W_get1, W_srcC, WCell_some, WO_some, at0, at1, at2, at3, at4, at5, ix0, ix1, at_nat, memS, lookF, putFD, String.reduceEq, String.reduceBEq, if_true, if_false, Bool.false_eq_true, Option.isNone_none, true_and, and_true, and_self, get_push, isNonD, Bool.not_true, Bool.not_false, cs_from_first, cs_own, cs_others, cs_spare, cs_locks, cs_closed, A.eo, A.eL, dF]
  refine lockat_law A ?_
  simp (maxDischargeDepth := 9) only [W_seq, W_asg, W_set, W_V, WV_some, W_C, W_op, W_cmpT, W_isB, W_un, W_tru, W_andT, W_orT, W_notT, W_andV, W_orV, W_notV, W_ife, W_nil, W_cons, W_tup, W_lst, W_addI, W_subI, W_iaddI, W_negI, W_mulI, W_fdivI, W_modI, W_powI, W_cmpI, W_isB_bl, W_isNB, W_isN, W_isntB, W_isntN, W_eqI, W_neI, W_pass, W_brk, W_cont, W_drop, W_rt, W_rtN, W_ifS, W_gsNil, W_gsCons, W_gTup, W_aug, W_call, W_B, RtN_rt, RtN_nx, W_abs, W_intI, W_intB, W_noPart, W_part, W_sl, W_lm, W_lm0, W_iter, W_range1, W_range2, W_forE, W_revE, W_compE, W_yes, W_lenT, W_truB, W_truI, List.append_nil, List.getElem?_cons_zero, List.getElem?_cons_succ, List.set_cons_zero, List.set_cons_succ, List.getElem?_set_self, List.getElem?_set_ne, lt_set, ne_eq, Nat.reduceEqDiff, not_false_eq_true, Nat.reduceLT, Nat.zero_ne_one, Nat.one_ne_zero, Nat.lt_add_one, Nat.zero_lt_succ, startD, List.map_cons, List.map_nil, List.length_cons, List.length_nil, List.cons_append, List.nil_append, Nat.reduceAdd, Nat.reduceSub, Nat.zero_add, List.replicate_succ, List.replicate_zero, W_inSC, List.all_cons, List.all_nil, flatD, List.any_cons, List.any_nil, eqF, Bool.and_true, Bool.or_false, Bool.or_true, Bool.true_or, Bool.false_or, Bool.true_and, Bool.false_and, Option.some.injEq, D.int.injEq, exists_eq_left', exists_eq_left, W_listT, List.set_set, lt_push, len_lt, List.getElem?_append_left, W_fldC, W_setFC, W_clsC, W_methC, W_lenC, W_ixC, W_ixTO, W_isLstC, W_appC, W_listC, W_tupC, W_truC, W_slC, W_slTT, W_addTT, W_addC, W_setIC, W_getIC, W_delC, W_isDctC, W_dgetC, W_dictC, W_dict0, W_eqS, W_neS, W_eqB, W_neB, W_meth, W_make, W_setF, W_augF, W_callK, W_chain, W_chainT, W_del, W_gSub, W_augI, W_get1, W_srcC, WCell_some, WO_some, at0, at1, at2, at3, at4, at5, ix0, ix1, at_nat, memS, lookF, putFD, String.reduceEq, String.reduceBEq, if_true, if_false, Bool.false_eq_true, Option.isNone_none, true_and, and_true, and_self, get_push, isNonD, Bool.not_true, Bool.not_false, cs_from_first, cs_own, cs_others, cs_spare, cs_locks, cs_closed, A.eo, A.eL, dF]
  cases hl : d.locks[p]? with
  | none =>
    simp (maxDischargeDepth := 9) only [W_seq, W_asg, W_set, W_V, WV_some, W_C, W_op, W_cmpT, W_isB, W_un, W_tru, W_andT, W_orT, W_notT, W_andV, W_orV, W_notV, W_ife, W_nil, W_cons, W_tup, W_lst, W_addI, W_subI, W_iaddI, W_negI, W_mulI, W_fdivI, W_modI, W_powI, W_cmpI, W_isB_bl, W_isNB, W_isN, W_isntB, W_isntN, W_eqI, W_neI, W_pass, W_brk, W_cont, W_drop, W_rt, W_rtN, W_ifS, W_gsNil, W_gsCons, W_gTup, W_aug, W_call, W_B, RtN_rt, RtN_nx, W_abs, W_intI, W_intB, W_noPart, W_part, W_sl, W_lm, W_lm0, W_iter, W_range1, W_range2, W_forE, W_revE, W_compE, W_yes, W_lenT, W_truB, W_truI, List.append_nil, List.getElem?_cons_zero, List.getElem?_cons_succ, List.set_cons_zero, List.set_cons_succ, List.getElem?_set_self, List.getElem?_set_ne, lt_set, ne_eq, Nat.reduceEqDiff, not_false_eq_true, Nat.reduceLT, Nat.zero_ne_one, Nat.one_ne_zero, Nat.lt_add_one, Nat.zero_lt_succ, startD, List.map_cons, List.map_nil, List.length_cons, List.length_nil, List.cons_append, List.nil_append, Nat.reduceAdd, Nat.reduceSub, Nat.zero_add, List.replicate_succ, List.replicate_zero, W_inSC, List.all_cons, List.all_nil, flatD, List.any_cons, List.any_nil, eqF, Bool.and_true, Bool.or_false, Bool.or_true, Bool.true_or, Bool.false_or, Bool.true_and, Bool.false_and, Option.some.injEq, D.int.injEq, exists_eq_left', exists_eq_left, W_listT, List.set_set, lt_push, len_lt, List.getElem?_append_left, W_fldC, W_setFC, W_clsC, W_methC, W_lenC, W_ixC, W_ixTO, W_isLstC, W_appC, W_listC, W_tupC, W_truC, W_slC, W_slTT, W_addTT, W_addC, W_setIC, W_getIC, W_delC, W_isDctC, W_dgetC, W_dictC, W_dict0, W_eqS, W_neS, W_eqB, W_neB, W_meth, W_make, W_setF, W_augF, W_callK, W_chain, W_chainT, W_del, W_gSub, W_augI, W_get1, W_srcC, WCell_some, WO_some, at0, at1, at2, at3, at4, at5, ix0, ix1, at_nat, memS, lookF, putFD, String.reduceEq, String.reduceBEq, if_true, if_false, Bool.false_eq_true, Option.isNone_none, true_and, and_true, and_self, get_push, isNonD, Bool.not_true, Bool.not_false, cs_from_first, cs_own, cs_others, cs_spare, cs_locks, cs_closed]
    exact q0 (by simp [mk, hl])
  | some l =>
    have hp : p < d.locks.length := (List.getElem?_eq_some_iff.mp hl).1
    have sz := A.sz
    simp (maxDischargeDepth := 9) only [W_seq, W_asg, W_set, W_V, WV_some, W_C, W_op, W_cmpT, W_isB, W_un, W_tru, W_andT, W_orT, W_notT, W_andV, W_orV, W_notV, W_ife, W_nil, W_cons, W_tup, W_lst, W_addI, W_subI, W_iaddI, W_negI, W_mulI, W_fdivI, W_modI, W_powI, W_cmpI, W_isB_bl, W_isNB, W_isN, W_isntB, W_isntN, W_eqI, W_neI, W_pass, W_brk, W_cont, W_drop, W_rt, W_rtN, W_ifS, W_gsNil, W_gsCons, W_gTup, W_aug, W_call, W_B, RtN_rt, RtN_nx, W_abs, W_intI, W_intB, W_noPart, W_part, W_sl, W_lm, W_lm0, W_iter, W_range1, W_range2, W_forE, W_revE, W_compE, W_yes, W_lenT, W_truB, W_truI, List.append_nil, List.getElem?_cons_zero, List.getElem?_cons_succ, List.set_cons_zero, List.set_cons_succ, List.getElem?_set_self, List.getElem?_set_ne, lt_set, ne_eq, Nat.reduceEqDiff, not_false_eq_true, Nat.reduceLT, Nat.zero_ne_one, Nat.one_ne_zero, Nat.lt_add_one, Nat.zero_lt_succ, startD, List.map_cons, List.map_nil, List.length_cons, List.length_nil, List.cons_append, List.nil_append, Nat.reduceAdd, Nat.reduceSub, Nat.zero_add, List.replicate_succ, List.replicate_zero, W_inSC, List.all_cons, List.all_nil, flatD, List.any_cons, List.any_nil, eqF, Bool.and_true, Bool.or_false, Bool.or_true, Bool.true_or, Bool.false_or, Bool.true_and, Bool.false_and, Option.some.injEq, D.int.injEq, exists_eq_left', exists_eq_left, W_listT, List.set_set, lt_push, len_lt, List.getElem?_append_left, W_fldC, W_setFC, W_clsC, W_methC, W_lenC, W_ixC, W_ixTO, W_isLstC, W_appC, W_listC, W_tupC, W_truC, W_slC, W_slTT, W_addTT, W_addC, W_setIC, W_getIC, W_delC, W_isDctC, W_dgetC, W_dictC, W_dict0, W_eqS, W_neS, W_eqB, W_neB, W_meth, W_make, W_setF, W_augF, W_callK, W_chain, W_chainT, W_del, W_gSub, W_augI, W_get1, W_srcC, WCell_some, WO_some, at0, at1, at2, at3, at4, at5, ix0, ix1, at_nat, memS, lookF, putFD, String.reduceEq, String.reduceBEq, if_true, if_false, Bool.false_eq_true, Option.isNone_none, true_and, and_true, and_self, get_push, isNonD, Bool.not_true, Bool.not_false, cs_from_first, cs_own, cs_others, cs_spare, cs_locks, cs_closed, A.eo, A.eL, dF, lD]
    by_cases c : l.mine = ff
    · simp (maxDischargeDepth := 9) only [c, beq_self_eq_true, W_seq, W_asg, W_set, W_V, WV_some, W_C, W_op, W_cmpT, W_isB, W_un, W_tru, W_andT, W_orT, W_notT, W_andV, W_orV, W_notV, W_ife, W_nil, W_cons, W_tup, W_lst, W_addI, W_subI, W_iaddI, W_negI, W_mulI, W_fdivI, W_modI, W_powI, W_cmpI, W_isB_bl, W_isNB, W_isN, W_isntB, W_isntN, W_eqI, W_neI, W_pass, W_brk, W_cont, W_drop, W_rt, W_rtN, W_ifS, W_gsNil, W_gsCons, W_gTup, W_aug, W_call, W_B, RtN_rt, RtN_nx, W_abs, W_intI, W_intB, W_noPart, W_part, W_sl, W_lm, W_lm0, W_iter, W_range1, W_range2, W_forE, W_revE, W_compE, W_yes, W_lenT, W_truB, W_truI, List.append_nil, List.getElem?_cons_zero, List.getElem?_cons_succ, List.set_cons_zero, List.set_cons_succ, List.getElem?_set_self, List.getElem?_set_ne, lt_set, ne_eq, Nat.reduceEqDiff, not_false_eq_true, Nat.reduceLT, Nat.zero_ne_one, Nat.one_ne_zero, Nat.lt_add_one, Nat.zero_lt_succ, startD, List.map_cons, List.map_nil, List.length_cons, List.length_nil, List.cons_append, List.nil_append, Nat.reduceAdd, Nat.reduceSub, Nat.zero_add, List.replicate_succ, List.replicate_zero, W_inSC, List.all_cons, List.all_nil, flatD, List.any_cons, List.any_nil, eqF, Bool.and_true, Bool.or_false, Bool.or_true, Bool.true_or, Bool.false_or, Bool.true_and, Bool.false_and, Option.some.injEq, D.int.injEq, exists_eq_left', exists_eq_left, W_listT, List.set_set, lt_push, len_lt, List.getElem?_append_left, W_fldC, W_setFC, W_clsC, W_methC, W_lenC, W_ixC, W_ixTO, W_isLstC, W_appC, W_listC, W_tupC, W_truC, W_slC, W_slTT, W_addTT, W_addC, W_setIC, W_getIC, W_delC, W_isDctC, W_dgetC, W_dictC, W_dict0, W_eqS, W_neS, W_eqB, W_neB, W_meth, W_make, W_setF, W_augF, W_callK, W_chain, W_chainT, W_del, W_gSub, W_augI, W_get1, W_srcC, WCell_some, WO_some, at0, at1, at2, at3, at4, at5, ix0, ix1, at_nat, memS, lookF, putFD, String.reduceEq, String.reduceBEq, if_true, if_false, Bool.false_eq_true, Option.isNone_none, true_and, and_true, and_self, get_push, isNonD, Bool.not_true, Bool.not_false, cs_from_first, cs_own, cs_others, cs_spare, cs_locks, cs_closed]
      exact q0 (by simp [mk, hl, c])
    · have cb : (l.mine == ff) = false := by simpa using c
      simp (maxDischargeDepth := 9) only [cb, W_seq, W_asg, W_set, W_V, WV_some, W_C, W_op, W_cmpT, W_isB, W_un, W_tru, W_andT, W_orT, W_notT, W_andV, W_orV, W_notV, W_ife, W_nil, W_cons, W_tup, W_lst, W_addI, W_subI, W_iaddI, W_negI, W_mulI, W_fdivI, W_modI, W_powI, W_cmpI, W_isB_bl, W_isNB, W_isN, W_isntB, W_isntN, W_eqI, W_neI, W_pass, W_brk, W_cont, W_drop, W_rt, W_rtN, W_ifS, W_gsNil, W_gsCons, W_gTup, W_aug, W_call, W_B, RtN_rt, RtN_nx, W_abs, W_intI, W_intB, W_noPart, W_part, W_sl, W_lm, W_lm0, W_iter, W_range1, W_range2, W_forE, W_revE, W_compE, W_yes, W_lenT, W_truB, W_truI, List.append_nil, List.getElem?_cons_zero, List.getElem?_cons_succ, List.set_cons_zero, List.set_cons_succ, List.getElem?_set_self, List.getElem?_set_ne, lt_set, ne_eq, Nat.reduceEqDiff, not_false_eq_true, Nat.reduceLT, Nat.zero_ne_one, Nat.one_ne_zero, Nat.lt_add_one, Nat.zero_lt_succ, startD, List.map_cons, List.map_nil, List.length_cons, List.length_nil, List.cons_append, List.nil_append, Nat.reduceAdd, Nat.reduceSub, Nat.zero_add, List.replicate_succ, List.replicate_zero, W_inSC, List.all_cons, List.all_nil, flatD, List.any_cons, List.any_nil, eqF, Bool.and_true, Bool.or_false, Bool.or_true, Bool.true_or, Bool.false_or, Bool.true_and, Bool.false_and, Option.some.injEq, D.int.injEq, exists_eq_left', exists_eq_left, W_listT, List.set_set, lt_push, len_lt, List.getElem?_append_left, W_fldC, W_setFC, W_clsC, W_methC, W_lenC, W_ixC, W_ixTO, W_isLstC, W_appC, W_listC, W_tupC, W_truC, W_slC, W_slTT, W_addTT, W_addC, W_setIC, W_getIC, W_delC, W_isDctC, W_dgetC, W_dictC, W_dict0, W_eqS, W_neS, W_eqB, W_neB, W_meth, W_make, W_setF, W_augF, W_callK, W_chain, W_chainT, W_del, W_gSub, W_augI, W_get1, W_srcC, WCell_some, WO_some, at0, at1, at2, at3, at4, at5, ix0, ix1, at_nat, memS, lookF, putFD, String.reduceEq, String.reduceBEq, if_true, if_false, Bool.false_eq_true, Option.isNone_none, true_and, and_true, and_self, get_push, isNonD, Bool.not_true, Bool.not_false, cs_from_first, cs_own, cs_others, cs_spare, cs_locks, cs_closed, A.eo, A.eL, dF, lo, ne, ne', List.length_set, List.length_map]
      refine ⟨⟨by omega, by omega, by omega⟩, ?_⟩
      obtain ⟨F, A'⟩ := erase_at A hp (d.oth + l.amt) false
      exact q1 _ _ (by simp [mk, hl, c]) F A'
theorem back_law {p : Nat} (A : AtD h o L ff sp d) (q1 : ∀ d' h', mk ff sp d (.back p) = some d' → Fr [o, L] h h' → AtD h' o L ff sp d' → Q (.bl true) h') (q0 : mk ff sp d (.back p) = none → Q (.bl false) h) : W (F_Draft_take_back [.ref o, .int (p : Nat)]) h Q := by
  unfold F_Draft_take_back B_Draft_take_back
  refine w_run rfl ?_
  have lo := get_lt A.eo
  have ne := A.ne
  have ne' := A.ne.symm
  simp (maxDischargeDepth := 9) only [W_seq, W_asg, W_set, W_V, WV_some, W_C, W_op, W_cmpT, W_isB, W_un, W_tru, W_andT, W_orT, W_notT, W_andV, W_orV, W_notV, W_ife, W_nil, W_cons, W_tup, W_lst, W_addI, W_subI, W_iaddI, W_negI, W_mulI, W_fdivI, W_modI, W_powI, W_cmpI, W_isB_bl, W_isNB, W_isN, W_isntB, W_isntN, W_eqI, W_neI, W_pass, W_brk, W_cont, W_drop, W_rt, W_rtN, W_ifS, W_gsNil, W_gsCons, W_gTup, W_aug, W_call, W_B, RtN_rt, RtN_nx, W_abs, W_intI, W_intB, W_noPart, W_part, W_sl, W_lm, W_lm0, W_iter, W_range1, W_range2, W_forE, W_revE, W_compE, W_yes, W_lenT, W_truB, W_truI, List.append_nil, List.getElem?_cons_zero, List.getElem?_cons_succ, List.set_cons_zero, List.set_cons_succ, List.getElem?_set_self, List.getElem?_set_ne, lt_set, ne_eq, Nat.reduceEqDiff, not_false_eq_true, Nat.reduceLT, Nat.zero_ne_one, Nat.one_ne_zero, Nat.lt_add_one, Nat.zero_lt_succ, startD, List.map_cons, List.map_nil, List.length_cons, List.length_nil, List.cons_append, List.nil_append, Nat.reduceAdd, Nat.reduceSub, Nat.zero_add, List.replicate_succ, List.replicate_zero, W_inSC, List.all_cons, List.all_nil, flatD, List.any_cons, List.any_nil, eqF, Bool.and_true, Bool.or_false, Bool.or_true, Bool.true_or, Bool.false_or, Bool.true_and, Bool.false_and, Option.some.injEq, D.int.injEq, exists_eq_left', exists_eq_left, W_listT, List.set_set, lt_push, len_lt, List.getElem?_append_left, W_fldC, W_setFC, W_clsC, W_methC, W_lenC, W_ixC, W_ixTO, W_isLstC, W_appC, W_listC, W_tupC, W_truC, W_slC, W_slTT, W_addTT, W_addC, W_setIC, W_getIC, W_delC, W_isDctC, W_dgetC, W_dictC, W_dict0, W_eqS, W_neS, W_eqB, W_neB, W_meth, W_make, W_setF, W_augF, W_callK, W_chain, W_chainT, W_del, W_gSub, W_augI, W_get1, W_srcC, WCell_some, WO_some, at0, at1, at2, at3, at4, at5, ix0, ix1, at_nat, memS, lookF, putFD, String.reduceEq, String.reduceBEq, if_true, if_false, Bool.false_eq_true, Option.isNone_none, true_and, and_true, and_self, get_push, isNonD, Bool.not_true, Bool.not_false, cs_from_first, cs_own, cs_others, cs_spare, cs_locks, cs_closed, A.eo, A.eL, dF]
  refine lockat_law A ?_
  simp (maxDischargeDepth := 9) only [W_seq, W_asg, W_set, W_V, WV_some, W_C, W_op, W_cmpT, W_isB, W_un, W_tru, W_andT, W_orT, W_notT, W_andV, W_orV, W_notV, W_ife, W_nil, W_cons, W_tup, W_lst, W_addI, W_subI, W_iaddI, W_negI, W_mulI, W_fdivI, W_modI, W_powI, W_cmpI, W_isB_bl, W_isNB, W_isN, W_isntB, W_isntN, W_eqI, W_neI, W_pass, W_brk, W_cont, W_drop, W_rt, W_rtN, W_ifS, W_gsNil, W_gsCons, W_gTup, W_aug, W_call, W_B, RtN_rt, RtN_nx, W_abs, W_intI, W_intB, W_noPart, W_part, W_sl, W_lm, W_lm0, W_iter, W_range1, W_range2, W_forE, W_revE, W_compE, W_yes, W_lenT, W_truB, W_truI, List.append_nil, List.getElem?_cons_zero, List.getElem?_cons_succ, List.set_cons_zero, List.set_cons_succ, List.getElem?_set_self, List.getElem?_set_ne, lt_set, ne_eq, Nat.reduceEqDiff, not_false_eq_true, Nat.reduceLT, Nat.zero_ne_one, Nat.one_ne_zero, Nat.lt_add_one, Nat.zero_lt_succ, startD, List.map_cons, List.map_nil, List.length_cons, List.length_nil, List.cons_append, List.nil_append, Nat.reduceAdd, Nat.reduceSub, Nat.zero_add, List.replicate_succ, List.replicate_zero, W_inSC, List.all_cons, List.all_nil, flatD, List.any_cons, List.any_nil, eqF, Bool.and_true, Bool.or_false, Bool.or_true, Bool.true_or, Bool.false_or, Bool.true_and, Bool.false_and, Option.some.injEq, D.int.injEq, exists_eq_left', exists_eq_left, W_listT, List.set_set, lt_push, len_lt, List.getElem?_append_left, W_fldC, W_setFC, W_clsC, W_methC, W_lenC, W_ixC, W_ixTO, W_isLstC, W_appC, W_listC, W_tupC, W_truC, W_slC, W_slTT, W_addTT, W_addC, W_setIC, W_getIC, W_delC, W_isDctC, W_dgetC, W_dictC, W_dict0, W_eqS, W_neS, W_eqB, W_neB, W_meth, W_make, W_setF, W_augF, W_callK, W_chain, W_chainT, W_del, W_gSub, W_augI, W_get1, W_srcC, WCell_some, WO_some, at0, at1, at2, at3, at4, at5, ix0, ix1, at_nat, memS, lookF, putFD, String.reduceEq, String.reduceBEq, if_true, if_false, Bool.false_eq_true, Option.isNone_none, true_and, and_true, and_self, get_push, isNonD, Bool.not_true, Bool.not_false, cs_from_first, cs_own, cs_others, cs_spare, cs_locks, cs_closed, A.eo, A.eL, dF]
  cases hl : d.locks[p]? with
  | none =>
    simp (maxDischargeDepth := 9) only [W_seq, W_asg, W_set, W_V, WV_some, W_C, W_op, W_cmpT, W_isB, W_un, W_tru, W_andT, W_orT, W_notT, W_andV, W_orV, W_notV, W_ife, W_nil, W_cons, W_tup, W_lst, W_addI, W_subI, W_iaddI, W_negI, W_mulI, W_fdivI, W_modI, W_powI, W_cmpI, W_isB_bl, W_isNB, W_isN, W_isntB, W_isntN, W_eqI, W_neI, W_pass, W_brk, W_cont, W_drop, W_rt, W_rtN, W_ifS, W_gsNil, W_gsCons, W_gTup, W_aug, W_call, W_B, RtN_rt, RtN_nx, W_abs, W_intI, W_intB, W_noPart, W_part, W_sl, W_lm, W_lm0, W_iter, W_range1, W_range2, W_forE, W_revE, W_compE, W_yes, W_lenT, W_truB, W_truI, List.append_nil, List.getElem?_cons_zero, List.getElem?_cons_succ, List.set_cons_zero, List.set_cons_succ, List.getElem?_set_self, List.getElem?_set_ne, lt_set, ne_eq, Nat.reduceEqDiff, not_false_eq_true, Nat.reduceLT, Nat.zero_ne_one, Nat.one_ne_zero, Nat.lt_add_one, Nat.zero_lt_succ, startD, List.map_cons, List.map_nil, List.length_cons, List.length_nil, List.cons_append, List.nil_append, Nat.reduceAdd, Nat.reduceSub, Nat.zero_add, List.replicate_succ, List.replicate_zero, W_inSC, List.all_cons, List.all_nil, flatD, List.any_cons, List.any_nil, eqF, Bool.and_true, Bool.or_false, Bool.or_true, Bool.true_or, Bool.false_or, Bool.true_and, Bool.false_and, Option.some.injEq, D.int.injEq, exists_eq_left', exists_eq_left, W_listT, List.set_set, lt_push, len_lt, List.getElem?_append_left, W_fldC, W_setFC, W_clsC, W_methC, W_lenC, W_ixC, W_ixTO, W_isLstC, W_appC, W_listC, W_tupC, W_truC, W_slC, W_slTT, W_addTT, W_addC, W_setIC, W_getIC, W_delC, W_isDctC, W_dgetC, W_dictC, W_dict0, W_eqS, W_neS, W_eqB, W_neB, W_meth, W_make, W_setF, W_augF, W_callK, W_chain, W_chainT, W_del, W_gSub, W_augI, W_get1, W_srcC, WCell_some, WO_some, at0, at1, at2, at3, at4, at5, ix0, ix1, at_nat, memS, lookF, putFD, String.reduceEq, String.reduceBEq, if_true, if_false, Bool.false_eq_true, Option.isNone_none, true_and, and_true, and_self, get_push, isNonD, Bool.not_true, Bool.not_false, cs_from_first, cs_own, cs_others, cs_spare, cs_locks, cs_closed]
    exact q0 (by simp [mk, hl])
  | some l =>
    have hp : p < d.locks.length := (List.getElem?_eq_some_iff.mp hl).1
    have sz := A.sz
    simp (maxDischargeDepth := 9) only [W_seq, W_asg, W_set, W_V, WV_some, W_C, W_op, W_cmpT, W_isB, W_un, W_tru, W_andT, W_orT, W_notT, W_andV, W_orV, W_notV, W_ife, W_nil, W_cons, W_tup, W_lst, W_addI, W_subI, W_iaddI, W_negI, W_mulI, W_fdivI, W_modI, W_powI, W_cmpI, W_isB_bl, W_isNB, W_isN, W_isntB, W_isntN, W_eqI, W_neI, W_pass, W_brk, W_cont, W_drop, W_rt, W_rtN, W_ifS, W_gsNil, W_gsCons, W_gTup, W_aug, W_call, W_B, RtN_rt, RtN_nx, W_abs, W_intI, W_intB, W_noPart, W_part, W_sl, W_lm, W_lm0, W_iter, W_range1, W_range2, W_forE, W_revE, W_compE, W_yes, W_lenT, W_truB, W_truI, List.append_nil, List.getElem?_cons_zero, List.getElem?_cons_succ, List.set_cons_zero, List.set_cons_succ, List.getElem?_set_self, List.getElem?_set_ne, lt_set, ne_eq, Nat.reduceEqDiff, not_false_eq_true, Nat.reduceLT, Nat.zero_ne_one, Nat.one_ne_zero, Nat.lt_add_one, Nat.zero_lt_succ, startD, List.map_cons, List.map_nil, List.length_cons, List.length_nil, List.cons_append, List.nil_append, Nat.reduceAdd, Nat.reduceSub, Nat.zero_add, List.replicate_succ, List.replicate_zero, W_inSC, List.all_cons, List.all_nil, flatD, List.any_cons, List.any_nil, eqF, Bool.and_true, Bool.or_false, Bool.or_true, Bool.true_or, Bool.false_or, Bool.true_and, Bool.false_and, Option.some.injEq, D.int.injEq, exists_eq_left', exists_eq_left, W_listT, List.set_set, lt_push, len_lt, List.getElem?_append_left, W_fldC, W_setFC, W_clsC, W_methC, W_lenC, W_ixC, W_ixTO, W_isLstC, W_appC, W_listC, W_tupC, W_truC, W_slC, W_slTT, W_addTT, W_addC, W_setIC, W_getIC, W_delC, W_isDctC, W_dgetC, W_dictC, W_dict0, W_eqS, W_neS, W_eqB, W_neB, W_meth, W_make, W_setF, W_augF, W_callK, W_chain, W_chainT, W_del, W_gSub, W_augI, W_get1, W_srcC, WCell_some, WO_some, at0, at1, at2, at3, at4, at5, ix0, ix1, at_nat, memS, lookF, putFD, String.reduceEq, String.reduceBEq, if_true, if_false, Bool.false_eq_true, Option.isNone_none, true_and, and_true, and_self, get_push, isNonD, Bool.not_true, Bool.not_false, cs_from_first, cs_own, cs_others, cs_spare, cs_locks, cs_closed, A.eo, A.eL, dF, lD]
    by_cases c : l.mine = ff
    · simp (maxDischargeDepth := 9) only [c, beq_self_eq_true, W_seq, W_asg, W_set, W_V, WV_some, W_C, W_op, W_cmpT, W_isB, W_un, W_tru, W_andT, W_orT, W_notT, W_andV, W_orV, W_notV, W_ife, W_nil, W_cons, W_tup, W_lst, W_addI, W_subI, W_iaddI, W_negI, W_mulI, W_fdivI, W_modI, W_powI, W_cmpI, W_isB_bl, W_isNB, W_isN, W_isntB, W_isntN, W_eqI, W_neI, W_pass, W_brk, W_cont, W_drop, W_rt, W_rtN, W_ifS, W_gsNil, W_gsCons, W_gTup, W_aug, W_call, W_B, RtN_rt, RtN_nx, W_abs, W_intI, W_intB, W_noPart, W_part, W_sl, W_lm, W_lm0, W_iter, W_range1, W_range2, W_forE, W_revE, W_compE, W_yes, W_lenT, W_truB, W_truI, List.append_nil, List.getElem?_cons_zero, List.getElem?_cons_succ, List.set_cons_zero, List.set_cons_succ, List.getElem?_set_self, List.getElem?_set_ne, lt_set, ne_eq, Nat.reduceEqDiff, not_false_eq_true, Nat.reduceLT, Nat.zero_ne_one, Nat.one_ne_zero, Nat.lt_add_one, Nat.zero_lt_succ, startD, List.map_cons, List.map_nil, List.length_cons, List.length_nil, List.cons_append, List.nil_append, Nat.reduceAdd, Nat.reduceSub, Nat.zero_add, List.replicate_succ, List.replicate_zero, W_inSC, List.all_cons, List.all_nil, flatD, List.any_cons, List.any_nil, eqF, Bool.and_true, Bool.or_false, Bool.or_true, Bool.true_or, Bool.false_or, Bool.true_and, Bool.false_and, Option.some.injEq, D.int.injEq, exists_eq_left', exists_eq_left, W_listT, List.set_set, lt_push, len_lt, List.getElem?_append_left, W_fldC, W_setFC, W_clsC, W_methC, W_lenC, W_ixC, W_ixTO, W_isLstC, W_appC, W_listC, W_tupC, W_truC, W_slC, W_slTT, W_addTT, W_addC, W_setIC, W_getIC, W_delC, W_isDctC, W_dgetC, W_dictC, W_dict0, W_eqS, W_neS, W_eqB, W_neB, W_meth, W_make, W_setF, W_augF, W_callK, W_chain, W_chainT, W_del, W_gSub, W_augI, W_get1, W_srcC, WCell_some, WO_some, at0, at1, at2, at3, at4, at5, ix0, ix1, at_nat, memS, lookF, putFD, String.reduceEq, String.reduceBEq, if_true, if_false, Bool.false_eq_true, Option.isNone_none, true_and, and_true, and_self, get_push, isNonD, Bool.not_true, Bool.not_false, cs_from_first, cs_own, cs_others, cs_spare, cs_locks, cs_closed, A.eo, A.eL, dF, lo, ne, ne', List.length_set, List.length_map]
      refine ⟨⟨by omega, by omega, by omega⟩, ?_⟩
      obtain ⟨F, A'⟩ := erase_at A hp (d.own + l.amt) true
      exact q1 _ _ (by simp [mk, hl, c]) F A'
    · have cb : (l.mine == ff) = false := by simpa using c
      simp (maxDischargeDepth := 9) only [cb, W_seq, W_asg, W_set, W_V, WV_some, W_C, W_op, W_cmpT, W_isB, W_un, W_tru, W_andT, W_orT, W_notT, W_andV, W_orV, W_notV, W_ife, W_nil, W_cons, W_tup, W_lst, W_addI, W_subI, W_iaddI, W_negI, W_mulI, W_fdivI, W_modI, W_powI, W_cmpI, W_isB_bl, W_isNB, W_isN, W_isntB, W_isntN, W_eqI, W_neI, W_pass, W_brk, W_cont, W_drop, W_rt, W_rtN, W_ifS, W_gsNil, W_gsCons, W_gTup, W_aug, W_call, W_B, RtN_rt, RtN_nx, W_abs, W_intI, W_intB, W_noPart, W_part, W_sl, W_lm, W_lm0, W_iter, W_range1, W_range2, W_forE, W_revE, W_compE, W_yes, W_lenT, W_truB, W_truI, List.append_nil, List.getElem?_cons_zero, List.getElem?_cons_succ, List.set_cons_zero, List.set_cons_succ, List.getElem?_set_self, List.getElem?_set_ne, lt_set, ne_eq, Nat.reduceEqDiff, not_false_eq_true, Nat.reduceLT, Nat.zero_ne_one, Nat.one_ne_zero, Nat.lt_add_one, Nat.zero_lt_succ, startD, List.map_cons, List.map_nil, List.length_cons, List.length_nil, List.cons_append, List.nil_append, Nat.reduceAdd, Nat.reduceSub, Nat.zero_add, List.replicate_succ, List.replicate_zero, W_inSC, List.all_cons, List.all_nil, flatD, List.any_cons, List.any_nil, eqF, Bool.and_true, Bool.or_false, Bool.or_true, Bool.true_or, Bool.false_or, Bool.true_and, Bool.false_and, Option.some.injEq, D.int.injEq, exists_eq_left', exists_eq_left, W_listT, List.set_set, lt_push, len_lt, List.getElem?_append_left, W_fldC, W_setFC, W_clsC, W_methC, W_lenC, W_ixC, W_ixTO, W_isLstC, W_appC, W_listC, W_tupC, W_truC, W_slC, W_slTT, W_addTT, W_addC, W_setIC, W_getIC, W_delC, W_isDctC, W_dgetC, W_dictC, W_dict0, W_eqS, W_neS, W_eqB, W_neB, W_meth, W_make, W_setF, W_augF, W_callK, W_chain, W_chainT, W_del, W_gSub, W_augI, W_get1, W_srcC, WCell_some, WO_some, at0, at1, at2, at3, at4, at5, ix0, ix1, at_nat, memS, lookF, putFD, String.reduceEq, String.reduceBEq, if_true, if_false, Bool.false_eq_true, Option.isNone_none, true_and, and_true, and_self, get_push, isNonD, Bool.not_true, Bool.not_false, cs_from_first, cs_own, cs_others, cs_spare, cs_locks, cs_closed]
      exact q0 (by simp [mk, hl, c])
theorem paid_law {p : Nat} {s : Int} (A : AtD h o L ff sp d) (q1 : ∀ d' h', mk ff sp d (.paid p s) = some d' → Fr [o, L] h h' → AtD h' o L ff sp d' → Q (.bl true) h') (q0 : mk ff sp d (.paid p s) = none → Q (.bl false) h) : W (F_Draft_take_paid [.ref o, .int (p : Nat), .int s]) h Q := by
  unfold F_Draft_take_paid B_Draft_take_paid
  refine w_run rfl ?_
  have lo := get_lt A.eo
  have ne := A.ne
  have ne' := A.ne.symm
  simp (maxDischargeDepth := 9) only [W_seq, W_asg, W_set, W_V, WV_some, W_C, W_op, W_cmpT, W_isB, W_un, W_tru, W_andT, W_orT, W_notT, W_andV, W_orV, W_notV, W_ife, W_nil, W_cons, W_tup, W_lst, W_addI, W_subI, W_iaddI, W_negI, W_mulI, W_fdivI, W_modI, W_powI, W_cmpI, W_isB_bl, W_isNB, W_isN, W_isntB, W_isntN, W_eqI, W_neI, W_pass, W_brk, W_cont, W_drop, W_rt, W_rtN, W_ifS, W_gsNil, W_gsCons, W_gTup, W_aug, W_call, W_B, RtN_rt, RtN_nx, W_abs, W_intI, W_intB, W_noPart, W_part, W_sl, W_lm, W_lm0, W_iter, W_range1, W_range2, W_forE, W_revE, W_compE, W_yes, W_lenT, W_truB, W_truI, List.append_nil, List.getElem?_cons_zero, List.getElem?_cons_succ, List.set_cons_zero, List.set_cons_succ, List.getElem?_set_self, List.getElem?_set_ne, lt_set, ne_eq, Nat.reduceEqDiff, not_false_eq_true, Nat.reduceLT, Nat.zero_ne_one, Nat.one_ne_zero, Nat.lt_add_one, Nat.zero_lt_succ, startD, List.map_cons, List.map_nil, List.length_cons, List.length_nil, List.cons_append, List.nil_append, Nat.reduceAdd, Nat.reduceSub, Nat.zero_add, List.replicate_succ, List.replicate_zero, W_inSC, List.all_cons, List.all_nil, flatD, List.any_cons, List.any_nil, eqF, Bool.and_true, Bool.or_false, Bool.or_true, Bool.true_or, Bool.false_or, Bool.true_and, Bool.false_and, Option.some.injEq, D.int.injEq, exists_eq_left', exists_eq_left, W_listT, List.set_set, lt_push, len_lt, List.getElem?_append_left, W_fldC, W_setFC, W_clsC, W_methC, W_lenC, W_ixC, W_ixTO, W_isLstC, W_appC, W_listC, W_tupC, W_truC, W_slC, W_slTT, W_addTT, W_addC, W_setIC, W_getIC, W_delC, W_isDctC, W_dgetC, W_dictC, W_dict0, W_eqS, W_neS, W_eqB, W_neB, W_meth, W_make, W_setF, W_augF, W_callK, W_chain, W_chainT, W_del, W_gSub, W_augI, W_get1, W_srcC, WCell_some, WO_some, at0, at1, at2, at3, at4, at5, ix0, ix1, at_nat, memS, lookF, putFD, String.reduceEq, String.reduceBEq, if_true, if_false, Bool.false_eq_true, Option.isNone_none, true_and, and_true, and_self, get_push, isNonD, Bool.not_true, Bool.not_false, cs_from_first, cs_own, cs_others, cs_spare, cs_locks, cs_closed, A.eo, A.eL, dF]
  refine lockat_law A ?_
  simp (maxDischargeDepth := 9) only [W_seq, W_asg, W_set, W_V, WV_some, W_C, W_op, W_cmpT, W_isB, W_un, W_tru, W_andT, W_orT, W_notT, W_andV, W_orV, W_notV, W_ife, W_nil, W_cons, W_tup, W_lst, W_addI, W_subI, W_iaddI, W_negI, W_mulI, W_fdivI, W_modI, W_powI, W_cmpI, W_isB_bl, W_isNB, W_isN, W_isntB, W_isntN, W_eqI, W_neI, W_pass, W_brk, W_cont, W_drop, W_rt, W_rtN, W_ifS, W_gsNil, W_gsCons, W_gTup, W_aug, W_call, W_B, RtN_rt, RtN_nx, W_abs, W_intI, W_intB, W_noPart, W_part, W_sl, W_lm, W_lm0, W_iter, W_range1, W_range2, W_forE, W_revE, W_compE, W_yes, W_lenT, W_truB, W_truI, List.append_nil, List.getElem?_cons_zero, List.getElem?_cons_succ, List.set_cons_zero, List.set_cons_succ, List.getElem?_set_self, List.getElem?_set_ne, lt_set, ne_eq, Nat.reduceEqDiff, not_false_eq_true, Nat.reduceLT, Nat.zero_ne_one, Nat.one_ne_zero, Nat.lt_add_one, Nat.zero_lt_succ, startD, List.map_cons, List.map_nil, List.length_cons, List.length_nil, List.cons_append, List.nil_append, Nat.reduceAdd, Nat.reduceSub, Nat.zero_add, List.replicate_succ, List.replicate_zero, W_inSC, List.all_cons, List.all_nil, flatD, List.any_cons, List.any_nil, eqF, Bool.and_true, Bool.or_false, Bool.or_true, Bool.true_or, Bool.false_or, Bool.true_and, Bool.false_and, Option.some.injEq, D.int.injEq, exists_eq_left', exists_eq_left, W_listT, List.set_set, lt_push, len_lt, List.getElem?_append_left, W_fldC, W_setFC, W_clsC, W_methC, W_lenC, W_ixC, W_ixTO, W_isLstC, W_appC, W_listC, W_tupC, W_truC, W_slC, W_slTT, W_addTT, W_addC, W_setIC, W_getIC, W_delC, W_isDctC, W_dgetC, W_dictC, W_dict0, W_eqS, W_neS, W_eqB, W_neB, W_meth, W_make, W_setF, W_augF, W_callK, W_chain, W_chainT, W_del, W_gSub, W_augI, W_get1, W_srcC, WCell_some, WO_some, at0, at1, at2, at3, at4, at5, ix0, ix1, at_nat, memS, lookF, putFD, String.reduceEq, String.reduceBEq, if_true, if_false, Bool.false_eq_true, Option.isNone_none, true_and, and_true, and_self, get_push, isNonD, Bool.not_true, Bool.not_false, cs_from_first, cs_own, cs_others, cs_spare, cs_locks, cs_closed, A.eo, A.eL, dF]
  cases hl : d.locks[p]? with
  | none =>
    simp (maxDischargeDepth := 9) only [W_seq, W_asg, W_set, W_V, WV_some, W_C, W_op, W_cmpT, W_isB, W_un, W_tru, W_andT, W_orT, W_notT, W_andV, W_orV, W_notV, W_ife, W_nil, W_cons, W_tup, W_lst, W_addI, W_subI, W_iaddI, W_negI, W_mulI, W_fdivI, W_modI, W_powI, W_cmpI, W_isB_bl, W_isNB, W_isN, W_isntB, W_isntN, W_eqI, W_neI, W_pass, W_brk, W_cont, W_drop, W_rt, W_rtN, W_ifS, W_gsNil, W_gsCons, W_gTup, W_aug, W_call, W_B, RtN_rt, RtN_nx, W_abs, W_intI, W_intB, W_noPart, W_part, W_sl, W_lm, W_lm0, W_iter, W_range1, W_range2, W_forE, W_revE, W_compE, W_yes, W_lenT, W_truB, W_truI, List.append_nil, List.getElem?_cons_zero, List.getElem?_cons_succ, List.set_cons_zero, List.set_cons_succ, List.getElem?_set_self, List.getElem?_set_ne, lt_set, ne_eq, Nat.reduceEqDiff, not_false_eq_true, Nat.reduceLT, Nat.zero_ne_one, Nat.one_ne_zero, Nat.lt_add_one, Nat.zero_lt_succ, startD, List.map_cons, List.map_nil, List.length_cons, List.length_nil, List.cons_append, List.nil_append, Nat.reduceAdd, Nat.reduceSub, Nat.zero_add, List.replicate_succ, List.replicate_zero, W_inSC, List.all_cons, List.all_nil, flatD, List.any_cons, List.any_nil, eqF, Bool.and_true, Bool.or_false, Bool.or_true, Bool.true_or, Bool.false_or, Bool.true_and, Bool.false_and, Option.some.injEq, D.int.injEq, exists_eq_left', exists_eq_left, W_listT, List.set_set, lt_push, len_lt, List.getElem?_append_left, W_fldC, W_setFC, W_clsC, W_methC, W_lenC, W_ixC, W_ixTO, W_isLstC, W_appC, W_listC, W_tupC, W_truC, W_slC, W_slTT, W_addTT, W_addC, W_setIC, W_getIC, W_delC, W_isDctC, W_dgetC, W_dictC, W_dict0, W_eqS, W_neS, W_eqB, W_neB, W_meth, W_make, W_setF, W_augF, W_callK, W_chain, W_chainT, W_del, W_gSub, W_augI, W_get1, W_srcC, WCell_some, WO_some, at0, at1, at2, at3, at4, at5, ix0, ix1, at_nat, memS, lookF, putFD, String.reduceEq, String.reduceBEq, if_true, if_false, Bool.false_eq_true, Option.isNone_none, true_and, and_true, and_self, get_push, isNonD, Bool.not_true, Bool.not_false, cs_from_first, cs_own, cs_others, cs_spare, cs_locks, cs_closed]
    exact q0 (by simp [mk, hl])
  | some l =>
    have hp : p < d.locks.length := (List.getElem?_eq_some_iff.mp hl).1
    have sz := A.sz
    simp (maxDischargeDepth := 9) only [W_seq, W_asg, W_set, W_V, WV_some, W_C, W_op, W_cmpT, W_isB, W_un, W_tru, W_andT, W_orT, W_notT, W_andV, W_orV, W_notV, W_ife, W_nil, W_cons, W_tup, W_lst, W_addI, W_subI, W_iaddI, W_negI, W_mulI, W_fdivI, W_modI, W_powI, W_cmpI, W_isB_bl, W_isNB, W_isN, W_isntB, W_isntN, W_eqI, W_neI, W_pass, W_brk, W_cont, W_drop, W_rt, W_rtN, W_ifS, W_gsNil, W_gsCons, W_gTup, W_aug, W_call, W_B, RtN_rt, RtN_nx, W_abs, W_intI, W_intB, W_noPart, W_part, W_sl, W_lm, W_lm0, W_iter, W_range1, W_range2, W_forE, W_revE, W_compE, W_yes, W_lenT, W_truB, W_truI, List.append_nil, List.getElem?_cons_zero, List.getElem?_cons_succ, List.set_cons_zero, List.set_cons_succ, List.getElem?_set_self, List.getElem?_set_ne, lt_set, ne_eq, Nat.reduceEqDiff, not_false_eq_true, Nat.reduceLT, Nat.zero_ne_one, Nat.one_ne_zero, Nat.lt_add_one, Nat.zero_lt_succ, startD, List.map_cons, List.map_nil, List.length_cons, List.length_nil, List.cons_append, List.nil_append, Nat.reduceAdd, Nat.reduceSub, Nat.zero_add, List.replicate_succ, List.replicate_zero, W_inSC, List.all_cons, List.all_nil, flatD, List.any_cons, List.any_nil, eqF, Bool.and_true, Bool.or_false, Bool.or_true, Bool.true_or, Bool.false_or, Bool.true_and, Bool.false_and, Option.some.injEq, D.int.injEq, exists_eq_left', exists_eq_left, W_listT, List.set_set, lt_push, len_lt, List.getElem?_append_left, W_fldC, W_setFC, W_clsC, W_methC, W_lenC, W_ixC, W_ixTO, W_isLstC, W_appC, W_listC, W_tupC, W_truC, W_slC, W_slTT, W_addTT, W_addC, W_setIC, W_getIC, W_delC, W_isDctC, W_dgetC, W_dictC, W_dict0, W_eqS, W_neS, W_eqB, W_neB, W_meth, W_make, W_setF, W_augF, W_callK, W_chain, W_chainT, W_del, W_gSub, W_augI, W_get1, W_srcC, WCell_some, WO_some, at0, at1, at2, at3, at4, at5, ix0, ix1, at_nat, memS, lookF, putFD, String.reduceEq, String.reduceBEq, if_true, if_false, Bool.false_eq_true, Option.isNone_none, true_and, and_true, and_self, get_push, isNonD, Bool.not_true, Bool.not_false, cs_from_first, cs_own, cs_others, cs_spare, cs_locks, cs_closed, A.eo, A.eL, dF, lD]
    by_cases c : l.mine = ff
    · simp (maxDischargeDepth := 9) only [c, beq_self_eq_true, W_seq, W_asg, W_set, W_V, WV_some, W_C, W_op, W_cmpT, W_isB, W_un, W_tru, W_andT, W_orT, W_notT, W_andV, W_orV, W_notV, W_ife, W_nil, W_cons, W_tup, W_lst, W_addI, W_subI, W_iaddI, W_negI, W_mulI, W_fdivI, W_modI, W_powI, W_cmpI, W_isB_bl, W_isNB, W_isN, W_isntB, W_isntN, W_eqI, W_neI, W_pass, W_brk, W_cont, W_drop, W_rt, W_rtN, W_ifS, W_gsNil, W_gsCons, W_gTup, W_aug, W_call, W_B, RtN_rt, RtN_nx, W_abs, W_intI, W_intB, W_noPart, W_part, W_sl, W_lm, W_lm0, W_iter, W_range1, W_range2, W_forE, W_revE, W_compE, W_yes, W_lenT, W_truB, W_truI, List.append_nil, List.getElem?_cons_zero, List.getElem?_cons_succ, List.set_cons_zero, List.set_cons_succ, List.getElem?_set_self, List.getElem?_set_ne, lt_set, ne_eq, Nat.reduceEqDiff, not_false_eq_true, Nat.reduceLT, Nat.zero_ne_one, Nat.one_ne_zero, Nat.lt_add_one, Nat.zero_lt_succ, startD, List.map_cons, List.map_nil, List.length_cons, List.length_nil, List.cons_append, List.nil_append, Nat.reduceAdd, Nat.reduceSub, Nat.zero_add, List.replicate_succ, List.replicate_zero, W_inSC, List.all_cons, List.all_nil, flatD, List.any_cons, List.any_nil, eqF, Bool.and_true, Bool.or_false, Bool.or_true, Bool.true_or, Bool.false_or, Bool.true_and, Bool.false_and, Option.some.injEq, D.int.injEq, exists_eq_left', exists_eq_left, W_listT, List.set_set, lt_push, len_lt, List.getElem?_append_left, W_fldC, W_setFC, W_clsC, W_methC, W_lenC, W_ixC, W_ixTO, W_isLstC, W_appC, W_listC, W_tupC, W_truC, W_slC, W_slTT, W_addTT, W_addC, W_setIC, W_getIC, W_delC, W_isDctC, W_dgetC, W_dictC, W_dict0, W_eqS, W_neS, W_eqB, W_neB, W_meth, W_make, W_setF, W_augF, W_callK, W_chain, W_chainT, W_del, W_gSub, W_augI, W_get1, W_srcC, WCell_some, WO_some, at0, at1, at2, at3, at4, at5, ix0, ix1, at_nat, memS, lookF, putFD, String.reduceEq, String.reduceBEq, if_true, if_false, Bool.false_eq_true, Option.isNone_none, true_and, and_true, and_self, get_push, isNonD, Bool.not_true, Bool.not_false, cs_from_first, cs_own, cs_others, cs_spare, cs_locks, cs_closed]
      exact q0 (by simp [mk, hl, c])
    · have cb : (l.mine == ff) = false := by simpa using c
      simp (maxDischargeDepth := 9) only [cb, W_seq, W_asg, W_set, W_V, WV_some, W_C, W_op, W_cmpT, W_isB, W_un, W_tru, W_andT, W_orT, W_notT, W_andV, W_orV, W_notV, W_ife, W_nil, W_cons, W_tup, W_lst, W_addI, W_subI, W_iaddI, W_negI, W_mulI, W_fdivI, W_modI, W_powI, W_cmpI, W_isB_bl, W_isNB, W_isN, W_isntB, W_isntN, W_eqI, W_neI, W_pass, W_brk, W_cont, W_drop, W_rt, W_rtN, W_ifS, W_gsNil, W_gsCons, W_gTup, W_aug, W_call, W_B, RtN_rt, RtN_nx, W_abs, W_intI, W_intB, W_noPart, W_part, W_sl, W_lm, W_lm0, W_iter, W_range1, W_range2, W_forE, W_revE, W_compE, W_yes, W_lenT, W_truB, W_truI, List.append_nil, List.getElem?_cons_zero, List.getElem?_cons_succ, List.set_cons_zero, List.set_cons_succ, List.getElem?_set_self, List.getElem?_set_ne, lt_set, ne_eq, Nat.reduceEqDiff, not_false_eq_true, Nat.reduceLT, Nat.zero_ne_one, Nat.one_ne_zero, Nat.lt_add_one, Nat.zero_lt_succ, startD, List.map_cons, List.map_nil, List.length_cons, List.length_nil, List.cons_append, List.nil_append, Nat.reduceAdd, Nat.reduceSub, Nat.zero_add, List.replicate_succ, List.replicate_zero, W_inSC, List.all_cons, List.all_nil, flatD, List.any_cons, List.any_nil, eqF, Bool.and_true, Bool.or_false, Bool.or_true, Bool.true_or, Bool.false_or, Bool.true_and, Bool.false_and, Option.some.injEq, D.int.injEq, exists_eq_left', exists_eq_left, W_listT, List.set_set, lt_push, len_lt, List.getElem?_append_left, W_fldC, W_setFC, W_clsC, W_methC, W_lenC, W_ixC, W_ixTO, W_isLstC, W_appC, W_listC, W_tupC, W_truC, W_slC, W_slTT, W_addTT, W_addC, W_setIC, W_getIC, W_delC, W_isDctC, W_dgetC, W_dictC, W_dict0, W_eqS, W_neS, W_eqB, W_neB, W_meth, W_make, W_setF, W_augF, W_callK, W_chain, W_chainT, W_del, W_gSub, W_augI, W_get1, W_srcC, WCell_some, WO_some, at0, at1, at2, at3, at4, at5, ix0, ix1, at_nat, memS, lookF, putFD, String.reduceEq, String.reduceBEq, if_true, if_false, Bool.false_eq_true, Option.isNone_none, true_and, and_true, and_self, get_push, isNonD, Bool.not_true, Bool.not_false, cs_from_first, cs_own, cs_others, cs_spare, cs_locks, cs_closed, A.eo, A.eL, dF]
      refine key_law ?_
      simp (maxDischargeDepth := 9) only [W_seq, W_asg, W_set, W_V, WV_some, W_C, W_op, W_cmpT, W_isB, W_un, W_tru, W_andT, W_orT, W_notT, W_andV, W_orV, W_notV, W_ife, W_nil, W_cons, W_tup, W_lst, W_addI, W_subI, W_iaddI, W_negI, W_mulI, W_fdivI, W_modI, W_powI, W_cmpI, W_isB_bl, W_isNB, W_isN, W_isntB, W_isntN, W_eqI, W_neI, W_pass, W_brk, W_cont, W_drop, W_rt, W_rtN, W_ifS, W_gsNil, W_gsCons, W_gTup, W_aug, W_call, W_B, RtN_rt, RtN_nx, W_abs, W_intI, W_intB, W_noPart, W_part, W_sl, W_lm, W_lm0, W_iter, W_range1, W_range2, W_forE, W_revE, W_compE, W_yes, W_lenT, W_truB, W_truI, List.append_nil, List.getElem?_cons_zero, List.getElem?_cons_succ, List.set_cons_zero, List.set_cons_succ, List.getElem?_set_self, List.getElem?_set_ne, lt_set, ne_eq, Nat.reduceEqDiff, not_false_eq_true, Nat.reduceLT, Nat.zero_ne_one, Nat.one_ne_zero, Nat.lt_add_one, Nat.zero_lt_succ, startD, List.map_cons, List.map_nil, List.length_cons, List.length_nil, List.cons_append, List.nil_append, Nat.reduceAdd, Nat.reduceSub, Nat.zero_add, List.replicate_succ, List.replicate_zero, W_inSC, List.all_cons, List.all_nil, flatD, List.any_cons, List.any_nil, eqF, Bool.and_true, Bool.or_false, Bool.or_true, Bool.true_or, Bool.false_or, Bool.true_and, Bool.false_and, Option.some.injEq, D.int.injEq, exists_eq_left', exists_eq_left, W_listT, List.set_set, lt_push, len_lt, List.getElem?_append_left, W_fldC, W_setFC, W_clsC, W_methC, W_lenC, W_ixC, W_ixTO, W_isLstC, W_appC, W_listC, W_tupC, W_truC, W_slC, W_slTT, W_addTT, W_addC, W_setIC, W_getIC, W_delC, W_isDctC, W_dgetC, W_dictC, W_dict0, W_eqS, W_neS, W_eqB, W_neB, W_meth, W_make, W_setF, W_augF, W_callK, W_chain, W_chainT, W_del, W_gSub, W_augI, W_get1, W_srcC, WCell_some, WO_some, at0, at1, at2, at3, at4, at5, ix0, ix1, at_nat, memS, lookF, putFD, String.reduceEq, String.reduceBEq, if_true, if_false, Bool.false_eq_true, Option.isNone_none, true_and, and_true, and_self, get_push, isNonD, Bool.not_true, Bool.not_false, cs_from_first, cs_own, cs_others, cs_spare, cs_locks, cs_closed]
      by_cases c3 : l.key = keyP s
      · simp (maxDischargeDepth := 9) only [c3, beq_self_eq_true, Bool.not_true, W_seq, W_asg, W_set, W_V, WV_some, W_C, W_op, W_cmpT, W_isB, W_un, W_tru, W_andT, W_orT, W_notT, W_andV, W_orV, W_notV, W_ife, W_nil, W_cons, W_tup, W_lst, W_addI, W_subI, W_iaddI, W_negI, W_mulI, W_fdivI, W_modI, W_powI, W_cmpI, W_isB_bl, W_isNB, W_isN, W_isntB, W_isntN, W_eqI, W_neI, W_pass, W_brk, W_cont, W_drop, W_rt, W_rtN, W_ifS, W_gsNil, W_gsCons, W_gTup, W_aug, W_call, W_B, RtN_rt, RtN_nx, W_abs, W_intI, W_intB, W_noPart, W_part, W_sl, W_lm, W_lm0, W_iter, W_range1, W_range2, W_forE, W_revE, W_compE, W_yes, W_lenT, W_truB, W_truI, List.append_nil, List.getElem?_cons_zero, List.getElem?_cons_succ, List.set_cons_zero, List.set_cons_succ, List.getElem?_set_self, List.getElem?_set_ne, lt_set, ne_eq, Nat.reduceEqDiff, not_false_eq_true, Nat.reduceLT, Nat.zero_ne_one, Nat.one_ne_zero, Nat.lt_add_one, Nat.zero_lt_succ, startD, List.map_cons, List.map_nil, List.length_cons, List.length_nil, List.cons_append, List.nil_append, Nat.reduceAdd, Nat.reduceSub, Nat.zero_add, List.replicate_succ, List.replicate_zero, W_inSC, List.all_cons, List.all_nil, flatD, List.any_cons, List.any_nil, eqF, Bool.and_true, Bool.or_false, Bool.or_true, Bool.true_or, Bool.false_or, Bool.true_and, Bool.false_and, Option.some.injEq, D.int.injEq, exists_eq_left', exists_eq_left, W_listT, List.set_set, lt_push, len_lt, List.getElem?_append_left, W_fldC, W_setFC, W_clsC, W_methC, W_lenC, W_ixC, W_ixTO, W_isLstC, W_appC, W_listC, W_tupC, W_truC, W_slC, W_slTT, W_addTT, W_addC, W_setIC, W_getIC, W_delC, W_isDctC, W_dgetC, W_dictC, W_dict0, W_eqS, W_neS, W_eqB, W_neB, W_meth, W_make, W_setF, W_augF, W_callK, W_chain, W_chainT, W_del, W_gSub, W_augI, W_get1, W_srcC, WCell_some, WO_some, at0, at1, at2, at3, at4, at5, ix0, ix1, at_nat, memS, lookF, putFD, String.reduceEq, String.reduceBEq, if_true, if_false, Bool.false_eq_true, Option.isNone_none, true_and, and_true, and_self, get_push, isNonD, Bool.not_true, Bool.not_false, cs_from_first, cs_own, cs_others, cs_spare, cs_locks, cs_closed, A.eo, A.eL, dF, lo, ne, ne', List.length_set, List.length_map]
        refine ⟨⟨by omega, by omega, by omega⟩, ?_⟩
        obtain ⟨F, A'⟩ := erase_at A hp (d.own + l.amt) true
        exact q1 _ _ (by simp [mk, hl, c, c3]) F A'
      · have cb3 : (l.key == keyP s) = false := by simpa using c3
        simp (maxDischargeDepth := 9) only [cb3, Bool.not_false, W_seq, W_asg, W_set, W_V, WV_some, W_C, W_op, W_cmpT, W_isB, W_un, W_tru, W_andT, W_orT, W_notT, W_andV, W_orV, W_notV, W_ife, W_nil, W_cons, W_tup, W_lst, W_addI, W_subI, W_iaddI, W_negI, W_mulI, W_fdivI, W_modI, W_powI, W_cmpI, W_isB_bl, W_isNB, W_isN, W_isntB, W_isntN, W_eqI, W_neI, W_pass, W_brk, W_cont, W_drop, W_rt, W_rtN, W_ifS, W_gsNil, W_gsCons, W_gTup, W_aug, W_call, W_B, RtN_rt, RtN_nx, W_abs, W_intI, W_intB, W_noPart, W_part, W_sl, W_lm, W_lm0, W_iter, W_range1, W_range2, W_forE, W_revE, W_compE, W_yes, W_lenT, W_truB, W_truI, List.append_nil, List.getElem?_cons_zero, List.getElem?_cons_succ, List.set_cons_zero, List.set_cons_succ, List.getElem?_set_self, List.getElem?_set_ne, lt_set, ne_eq, Nat.reduceEqDiff, not_false_eq_true, Nat.reduceLT, Nat.zero_ne_one, Nat.one_ne_zero, Nat.lt_add_one, Nat.zero_lt_succ, startD, List.map_cons, List.map_nil, List.length_cons, List.length_nil, List.cons_append, List.nil_append, Nat.reduceAdd, Nat.reduceSub, Nat.zero_add, List.replicate_succ, List.replicate_zero, W_inSC, List.all_cons, List.all_nil, flatD, List.any_cons, List.any_nil, eqF, Bool.and_true, Bool.or_false, Bool.or_true, Bool.true_or, Bool.false_or, Bool.true_and, Bool.false_and, Option.some.injEq, D.int.injEq, exists_eq_left', exists_eq_left, W_listT, List.set_set, lt_push, len_lt, List.getElem?_append_left, W_fldC, W_setFC, W_clsC, W_methC, W_lenC, W_ixC, W_ixTO, W_isLstC, W_appC, W_listC, W_tupC, W_truC, W_slC, W_slTT, W_addTT, W_addC, W_setIC, W_getIC, W_delC, W_isDctC, W_dgetC, W_dictC, W_dict0, W_eqS, W_neS, W_eqB, W_neB, W_meth, W_make, W_setF, W_augF, W_callK, W_chain, W_chainT, W_del, W_gSub, W_augI, W_get1, W_srcC, WCell_some, WO_some, at0, at1, at2, at3, at4, at5, ix0, ix1, at_nat, memS, lookF, putFD, String.reduceEq, String.reduceBEq, if_true, if_false, Bool.false_eq_true, Option.isNone_none, true_and, and_true, and_self, get_push, isNonD, Bool.not_true, Bool.not_false, cs_from_first, cs_own, cs_others, cs_spare, cs_locks, cs_closed]
        exact q0 (by simp [mk, hl, c3])
theorem fin_law (A : AtD h o L ff sp d) (q1 : ∀ d' h', mk ff sp d .finish = some d' → Fr [o, L] h h' → AtD h' o L ff sp d' → Q (.bl true) h') (q0 : mk ff sp d .finish = none → Q (.bl false) h) : W (F_Draft_finish_up [.ref o]) h Q := by
  unfold F_Draft_finish_up B_Draft_finish_up
  refine w_run rfl ?_
  have lo := get_lt A.eo
  have ne := A.ne
  simp (maxDischargeDepth := 9) only [W_seq, W_asg, W_set, W_V, WV_some, W_C, W_op, W_cmpT, W_isB, W_un, W_tru, W_andT, W_orT, W_notT, W_andV, W_orV, W_notV, W_ife, W_nil, W_cons, W_tup, W_lst, W_addI, W_subI, W_iaddI, W_negI, W_mulI, W_fdivI, W_modI, W_powI, W_cmpI, W_isB_bl, W_isNB, W_isN, W_isntB, W_isntN, W_eqI, W_neI, W_pass, W_brk, W_cont, W_drop, W_rt, W_rtN, W_ifS, W_gsNil, W_gsCons, W_gTup, W_aug, W_call, W_B, RtN_rt, RtN_nx, W_abs, W_intI, W_intB, W_noPart, W_part, W_sl, W_lm, W_lm0, W_iter, W_range1, W_range2, W_forE, W_revE, W_compE, W_yes, W_lenT, W_truB, W_truI, List.append_nil, List.getElem?_cons_zero, List.getElem?_cons_succ, List.set_cons_zero, List.set_cons_succ, List.getElem?_set_self, List.getElem?_set_ne, lt_set, ne_eq, Nat.reduceEqDiff, not_false_eq_true, Nat.reduceLT, Nat.zero_ne_one, Nat.one_ne_zero, Nat.lt_add_one, Nat.zero_lt_succ, startD, List.map_cons, List.map_nil, List.length_cons, List.length_nil, List.cons_append, List.nil_append, Nat.reduceAdd, Nat.reduceSub, Nat.zero_add, List.replicate_succ, List.replicate_zero, W_inSC, List.all_cons, List.all_nil, flatD, List.any_cons, List.any_nil, eqF, Bool.and_true, Bool.or_false, Bool.or_true, Bool.true_or, Bool.false_or, Bool.true_and, Bool.false_and, Option.some.injEq, D.int.injEq, exists_eq_left', exists_eq_left, W_listT, List.set_set, lt_push, len_lt, List.getElem?_append_left, W_fldC, W_setFC, W_clsC, W_methC, W_lenC, W_ixC, W_ixTO, W_isLstC, W_appC, W_listC, W_tupC, W_truC, W_slC, W_slTT, W_addTT, W_addC, W_setIC, W_getIC, W_delC, W_isDctC, W_dgetC, W_dictC, W_dict0, W_eqS, W_neS, W_eqB, W_neB, W_meth, W_make, W_setF, W_augF, W_callK, W_chain, W_chainT, W_del, W_gSub, W_augI, W_get1, W_srcC, WCell_some, WO_some, at0, at1, at2, at3, at4, at5, ix0, ix1, at_nat, memS, lookF, putFD, String.reduceEq, String.reduceBEq, if_true, if_false, Bool.false_eq_true, Option.isNone_none, true_and, and_true, and_self, get_push, isNonD, Bool.not_true, Bool.not_false, cs_from_first, cs_own, cs_others, cs_spare, cs_locks, cs_closed, A.eo, A.eL, dF]
  cases hc : d.cl
  · simp (maxDischargeDepth := 9) only [W_seq, W_asg, W_set, W_V, WV_some, W_C, W_op, W_cmpT, W_isB, W_un, W_tru, W_andT, W_orT, W_notT, W_andV, W_orV, W_notV, W_ife, W_nil, W_cons, W_tup, W_lst, W_addI, W_subI, W_iaddI, W_negI, W_mulI, W_fdivI, W_modI, W_powI, W_cmpI, W_isB_bl, W_isNB, W_isN, W_isntB, W_isntN, W_eqI, W_neI, W_pass, W_brk, W_cont, W_drop, W_rt, W_rtN, W_ifS, W_gsNil, W_gsCons, W_gTup, W_aug, W_call, W_B, RtN_rt, RtN_nx, W_abs, W_intI, W_intB, W_noPart, W_part, W_sl, W_lm, W_lm0, W_iter, W_range1, W_range2, W_forE, W_revE, W_compE, W_yes, W_lenT, W_truB, W_truI, List.append_nil, List.getElem?_cons_zero, List.getElem?_cons_succ, List.set_cons_zero, List.set_cons_succ, List.getElem?_set_self, List.getElem?_set_ne, lt_set, ne_eq, Nat.reduceEqDiff, not_false_eq_true, Nat.reduceLT, Nat.zero_ne_one, Nat.one_ne_zero, Nat.lt_add_one, Nat.zero_lt_succ, startD, List.map_cons, List.map_nil, List.length_cons, List.length_nil, List.cons_append, List.nil_append, Nat.reduceAdd, Nat.reduceSub, Nat.zero_add, List.replicate_succ, List.replicate_zero, W_inSC, List.all_cons, List.all_nil, flatD, List.any_cons, List.any_nil, eqF, Bool.and_true, Bool.or_false, Bool.or_true, Bool.true_or, Bool.false_or, Bool.true_and, Bool.false_and, Option.some.injEq, D.int.injEq, exists_eq_left', exists_eq_left, W_listT, List.set_set, lt_push, len_lt, List.getElem?_append_left, W_fldC, W_setFC, W_clsC, W_methC, W_lenC, W_ixC, W_ixTO, W_isLstC, W_appC, W_listC, W_tupC, W_truC, W_slC, W_slTT, W_addTT, W_addC, W_setIC, W_getIC, W_delC, W_isDctC, W_dgetC, W_dictC, W_dict0, W_eqS, W_neS, W_eqB, W_neB, W_meth, W_make, W_setF, W_augF, W_callK, W_chain, W_chainT, W_del, W_gSub, W_augI, W_get1, W_srcC, WCell_some, WO_some, at0, at1, at2, at3, at4, at5, ix0, ix1, at_nat, memS, lookF, putFD, String.reduceEq, String.reduceBEq, if_true, if_false, Bool.false_eq_true, Option.isNone_none, true_and, and_true, and_self, get_push, isNonD, Bool.not_true, Bool.not_false, cs_from_first, cs_own, cs_others, cs_spare, cs_locks, cs_closed, A.eo, A.eL, dF]
    cases hl : d.locks with
    | nil =>
      simp (maxDischargeDepth := 9) only [List.map_nil, List.isEmpty_nil, Bool.not_true, W_seq, W_asg, W_set, W_V, WV_some, W_C, W_op, W_cmpT, W_isB, W_un, W_tru, W_andT, W_orT, W_notT, W_andV, W_orV, W_notV, W_ife, W_nil, W_cons, W_tup, W_lst, W_addI, W_subI, W_iaddI, W_negI, W_mulI, W_fdivI, W_modI, W_powI, W_cmpI, W_isB_bl, W_isNB, W_isN, W_isntB, W_isntN, W_eqI, W_neI, W_pass, W_brk, W_cont, W_drop, W_rt, W_rtN, W_ifS, W_gsNil, W_gsCons, W_gTup, W_aug, W_call, W_B, RtN_rt, RtN_nx, W_abs, W_intI, W_intB, W_noPart, W_part, W_sl, W_lm, W_lm0, W_iter, W_range1, W_range2, W_forE, W_revE, W_compE, W_yes, W_lenT, W_truB, W_truI, List.append_nil, List.getElem?_cons_zero, List.getElem?_cons_succ, List.set_cons_zero, List.set_cons_succ, List.getElem?_set_self, List.getElem?_set_ne, lt_set, ne_eq, Nat.reduceEqDiff, not_false_eq_true, Nat.reduceLT, Nat.zero_ne_one, Nat.one_ne_zero, Nat.lt_add_one, Nat.zero_lt_succ, startD, List.map_cons, List.map_nil, List.length_cons, List.length_nil, List.cons_append, List.nil_append, Nat.reduceAdd, Nat.reduceSub, Nat.zero_add, List.replicate_succ, List.replicate_zero, W_inSC, List.all_cons, List.all_nil, flatD, List.any_cons, List.any_nil, eqF, Bool.and_true, Bool.or_false, Bool.or_true, Bool.true_or, Bool.false_or, Bool.true_and, Bool.false_and, Option.some.injEq, D.int.injEq, exists_eq_left', exists_eq_left, W_listT, List.set_set, lt_push, len_lt, List.getElem?_append_left, W_fldC, W_setFC, W_clsC, W_methC, W_lenC, W_ixC, W_ixTO, W_isLstC, W_appC, W_listC, W_tupC, W_truC, W_slC, W_slTT, W_addTT, W_addC, W_setIC, W_getIC, W_delC, W_isDctC, W_dgetC, W_dictC, W_dict0, W_eqS, W_neS, W_eqB, W_neB, W_meth, W_make, W_setF, W_augF, W_callK, W_chain, W_chainT, W_del, W_gSub, W_augI, W_get1, W_srcC, WCell_some, WO_some, at0, at1, at2, at3, at4, at5, ix0, ix1, at_nat, memS, lookF, putFD, String.reduceEq, String.reduceBEq, if_true, if_false, Bool.false_eq_true, Option.isNone_none, true_and, and_true, and_self, get_push, isNonD, Bool.not_true, Bool.not_false, cs_from_first, cs_own, cs_others, cs_spare, cs_locks, cs_closed, A.eo, A.eL, dF, hc]
      refine q1 { d with cl := true } _ (by simp [mk, hc, hl]) (Fr.write (by simp) (by have := A.o2; omega)) ⟨?_, ?_, A.ne, A.o2, A.l2, A.sz⟩
      · rw [List.getElem?_set_self lo]; rfl
      · rw [List.getElem?_set_ne ne]; exact A.eL
    | cons l ls =>
      simp (maxDischargeDepth := 9) only [List.map_cons, List.isEmpty_cons, Bool.not_false, W_seq, W_asg, W_set, W_V, WV_some, W_C, W_op, W_cmpT, W_isB, W_un, W_tru, W_andT, W_orT, W_notT, W_andV, W_orV, W_notV, W_ife, W_nil, W_cons, W_tup, W_lst, W_addI, W_subI, W_iaddI, W_negI, W_mulI, W_fdivI, W_modI, W_powI, W_cmpI, W_isB_bl, W_isNB, W_isN, W_isntB, W_isntN, W_eqI, W_neI, W_pass, W_brk, W_cont, W_drop, W_rt, W_rtN, W_ifS, W_gsNil, W_gsCons, W_gTup, W_aug, W_call, W_B, RtN_rt, RtN_nx, W_abs, W_intI, W_intB, W_noPart, W_part, W_sl, W_lm, W_lm0, W_iter, W_range1, W_range2, W_forE, W_revE, W_compE, W_yes, W_lenT, W_truB, W_truI, List.append_nil, List.getElem?_cons_zero, List.getElem?_cons_succ, List.set_cons_zero, List.set_cons_succ, List.getElem?_set_self, List.getElem?_set_ne, lt_set, ne_eq, Nat.reduceEqDiff, not_false_eq_true, Nat.reduceLT, Nat.zero_ne_one, Nat.one_ne_zero, Nat.lt_add_one, Nat.zero_lt_succ, startD, List.map_cons, List.map_nil, List.length_cons, List.length_nil, List.cons_append, List.nil_append, Nat.reduceAdd, Nat.reduceSub, Nat.zero_add, List.replicate_succ, List.replicate_zero, W_inSC, List.all_cons, List.all_nil, flatD, List.any_cons, List.any_nil, eqF, Bool.and_true, Bool.or_false, Bool.or_true, Bool.true_or, Bool.false_or, Bool.true_and, Bool.false_and, Option.some.injEq, D.int.injEq, exists_eq_left', exists_eq_left, W_listT, List.set_set, lt_push, len_lt, List.getElem?_append_left, W_fldC, W_setFC, W_clsC, W_methC, W_lenC, W_ixC, W_ixTO, W_isLstC, W_appC, W_listC, W_tupC, W_truC, W_slC, W_slTT, W_addTT, W_addC, W_setIC, W_getIC, W_delC, W_isDctC, W_dgetC, W_dictC, W_dict0, W_eqS, W_neS, W_eqB, W_neB, W_meth, W_make, W_setF, W_augF, W_callK, W_chain, W_chainT, W_del, W_gSub, W_augI, W_get1, W_srcC, WCell_some, WO_some, at0, at1, at2, at3, at4, at5, ix0, ix1, at_nat, memS, lookF, putFD, String.reduceEq, String.reduceBEq, if_true, if_false, Bool.false_eq_true, Option.isNone_none, true_and, and_true, and_self, get_push, isNonD, Bool.not_true, Bool.not_false, cs_from_first, cs_own, cs_others, cs_spare, cs_locks, cs_closed]
      exact q0 (by simp [mk, hl])
  · simp (maxDischargeDepth := 9) only [W_seq, W_asg, W_set, W_V, WV_some, W_C, W_op, W_cmpT, W_isB, W_un, W_tru, W_andT, W_orT, W_notT, W_andV, W_orV, W_notV, W_ife, W_nil, W_cons, W_tup, W_lst, W_addI, W_subI, W_iaddI, W_negI, W_mulI, W_fdivI, W_modI, W_powI, W_cmpI, W_isB_bl, W_isNB, W_isN, W_isntB, W_isntN, W_eqI, W_neI, W_pass, W_brk, W_cont, W_drop, W_rt, W_rtN, W_ifS, W_gsNil, W_gsCons, W_gTup, W_aug, W_call, W_B, RtN_rt, RtN_nx, W_abs, W_intI, W_intB, W_noPart, W_part, W_sl, W_lm, W_lm0, W_iter, W_range1, W_range2, W_forE, W_revE, W_compE, W_yes, W_lenT, W_truB, W_truI, List.append_nil, List.getElem?_cons_zero, List.getElem?_cons_succ, List.set_cons_zero, List.set_cons_succ, List.getElem?_set_self, List.getElem?_set_ne, lt_set, ne_eq, Nat.reduceEqDiff, not_false_eq_true, Nat.reduceLT, Nat.zero_ne_one, Nat.one_ne_zero, Nat.lt_add_one, Nat.zero_lt_succ, startD, List.map_cons, List.map_nil, List.length_cons, List.length_nil, List.cons_append, List.nil_append, Nat.reduceAdd, Nat.reduceSub, Nat.zero_add, List.replicate_succ, List.replicate_zero, W_inSC, List.all_cons, List.all_nil, flatD, List.any_cons, List.any_nil, eqF, Bool.and_true, Bool.or_false, Bool.or_true, Bool.true_or, Bool.false_or, Bool.true_and, Bool.false_and, Option.some.injEq, D.int.injEq, exists_eq_left', exists_eq_left, W_listT, List.set_set, lt_push, len_lt, List.getElem?_append_left, W_fldC, W_setFC, W_clsC, W_methC, W_lenC, W_ixC, W_ixTO, W_isLstC, W_appC, W_listC, W_tupC, W_truC, W_slC, W_slTT, W_addTT, W_addC, W_setIC, W_getIC, W_delC, W_isDctC, W_dgetC, W_dictC, W_dict0, W_eqS, W_neS, W_eqB, W_neB, W_meth, W_make, W_setF, W_augF, W_callK, W_chain, W_chainT, W_del, W_gSub, W_augI, W_get1, W_srcC, WCell_some, WO_some, at0, at1, at2, at3, at4, at5, ix0, ix1, at_nat, memS, lookF, putFD, String.reduceEq, String.reduceBEq, if_true, if_false, Bool.false_eq_true, Option.isNone_none, true_and, and_true, and_self, get_push, isNonD, Bool.not_true, Bool.not_false, cs_from_first, cs_own, cs_others, cs_spare, cs_locks, cs_closed]
    exact q0 (by simp [mk, hc])
theorem make_law {m : Mv} (A : AtD h o L ff sp d) (q1 : ∀ d' h', mk ff sp d m = some d' → Fr [o, L] h h' → AtD h' o L ff sp d' → Q (.bl true) h') (q0 : mk ff sp d m = none → Q (.bl false) h) : W (F_Draft_make [.ref o, mD m]) h Q := by
  unfold F_Draft_make B_Draft_make
  refine w_run rfl ?_
  cases m <;> simp (maxDischargeDepth := 9) only [W_seq, W_asg, W_set, W_V, WV_some, W_C, W_op, W_cmpT, W_isB, W_un, W_tru, W_andT, W_orT, W_notT, W_andV, W_orV, W_notV, W_ife, W_nil, W_cons, W_tup, W_lst, W_addI, W_subI, W_iaddI, W_negI, W_mulI, W_fdivI, W_modI, W_powI, W_cmpI, W_isB_bl, W_isNB, W_isN, W_isntB, W_isntN, W_eqI, W_neI, W_pass, W_brk, W_cont, W_drop, W_rt, W_rtN, W_ifS, W_gsNil, W_gsCons, W_gTup, W_aug, W_call, W_B, RtN_rt, RtN_nx, W_abs, W_intI, W_intB, W_noPart, W_part, W_sl, W_lm, W_lm0, W_iter, W_range1, W_range2, W_forE, W_revE, W_compE, W_yes, W_lenT, W_truB, W_truI, List.append_nil, List.getElem?_cons_zero, List.getElem?_cons_succ, List.set_cons_zero, List.set_cons_succ, List.getElem?_set_self, List.getElem?_set_ne, lt_set, ne_eq, Nat.reduceEqDiff, not_false_eq_true, Nat.reduceLT, Nat.zero_ne_one, Nat.one_ne_zero, Nat.lt_add_one, Nat.zero_lt_succ, startD, List.map_cons, List.map_nil, List.length_cons, List.length_nil, List.cons_append, List.nil_append, Nat.reduceAdd, Nat.reduceSub, Nat.zero_add, List.replicate_succ, List.replicate_zero, W_inSC, List.all_cons, List.all_nil, flatD, List.any_cons, List.any_nil, eqF, Bool.and_true, Bool.or_false, Bool.or_true, Bool.true_or, Bool.false_or, Bool.true_and, Bool.false_and, Option.some.injEq, D.int.injEq, exists_eq_left', exists_eq_left, W_listT, List.set_set, lt_push, len_lt, List.getElem?_append_left, W_fldC, W_setFC, W_clsC, W_methC, W_lenC, W_ixC, W_ixTO, W_isLstC, W_appC, W_listC, W_tupC, W_truC, W_slC, W_slTT, W_addTT, W_addC, W_setIC, W_getIC, W_delC, W_isDctC, W_dgetC, W_dictC, W_dict0, W_eqS, W_neS, W_eqB, W_neB, W_meth, W_make, W_setF, W_augF, W_callK, W_chain, W_chainT, W_del, W_gSub, W_augI, W_get1, W_srcC, WCell_some, WO_some, at0, at1, at2, at3, at4, at5, ix0, ix1, at_nat, memS, lookF, putFD, String.reduceEq, String.reduceBEq, if_true, if_false, Bool.false_eq_true, Option.isNone_none, true_and, and_true, and_self, get_push, isNonD, Bool.not_true, Bool.not_false, cs_from_first, cs_own, cs_others, cs_spare, cs_locks, cs_closed, mD, A.eo, dF]
  · exact put_law A q1 q0
  · exact paid_law A q1 q0
  · exact drop_law A q1 q0
  · exact back_law A q1 q0
  · exact hand_law A q1 q0
  · exact fin_law A q1 q0
theorem first_law {n : Int} (q : Q (.bl (n % 2 == 1)) h) : W (F_first_proposes [.int n]) h Q := by
  unfold F_first_proposes B_first_proposes
  refine w_run rfl ?_
  simp (maxDischargeDepth := 9) only [W_seq, W_asg, W_set, W_V, WV_some, W_C, W_op, W_cmpT, W_isB, W_un, W_tru, W_andT, W_orT, W_notT, W_andV, W_orV, W_notV, W_ife, W_nil, W_cons, W_tup, W_lst, W_addI, W_subI, W_iaddI, W_negI, W_mulI, W_fdivI, W_modI, W_powI, W_cmpI, W_isB_bl, W_isNB, W_isN, W_isntB, W_isntN, W_eqI, W_neI, W_pass, W_brk, W_cont, W_drop, W_rt, W_rtN, W_ifS, W_gsNil, W_gsCons, W_gTup, W_aug, W_call, W_B, RtN_rt, RtN_nx, W_abs, W_intI, W_intB, W_noPart, W_part, W_sl, W_lm, W_lm0, W_iter, W_range1, W_range2, W_forE, W_revE, W_compE, W_yes, W_lenT, W_truB, W_truI, List.append_nil, List.getElem?_cons_zero, List.getElem?_cons_succ, List.set_cons_zero, List.set_cons_succ, List.getElem?_set_self, List.getElem?_set_ne, lt_set, ne_eq, Nat.reduceEqDiff, not_false_eq_true, Nat.reduceLT, Nat.zero_ne_one, Nat.one_ne_zero, Nat.lt_add_one, Nat.zero_lt_succ, startD, List.map_cons, List.map_nil, List.length_cons, List.length_nil, List.cons_append, List.nil_append, Nat.reduceAdd, Nat.reduceSub, Nat.zero_add, List.replicate_succ, List.replicate_zero, W_inSC, List.all_cons, List.all_nil, flatD, List.any_cons, List.any_nil, eqF, Bool.and_true, Bool.or_false, Bool.or_true, Bool.true_or, Bool.false_or, Bool.true_and, Bool.false_and, Option.some.injEq, D.int.injEq, exists_eq_left', exists_eq_left, W_listT, List.set_set, lt_push, len_lt, List.getElem?_append_left, W_fldC, W_setFC, W_clsC, W_methC, W_lenC, W_ixC, W_ixTO, W_isLstC, W_appC, W_listC, W_tupC, W_truC, W_slC, W_slTT, W_addTT, W_addC, W_setIC, W_getIC, W_delC, W_isDctC, W_dgetC, W_dictC, W_dict0, W_eqS, W_neS, W_eqB, W_neB, W_meth, W_make, W_setF, W_augF, W_callK, W_chain, W_chainT, W_del, W_gSub, W_augI, W_get1, W_srcC, WCell_some, WO_some, at0, at1, at2, at3, at4, at5, ix0, ix1, at_nat, memS, lookF, putFD, String.reduceEq, String.reduceBEq, if_true, if_false, Bool.false_eq_true, Option.isNone_none, true_and, and_true, and_self, get_push, isNonD, Bool.not_true, Bool.not_false, cs_from_first, cs_own, cs_others, cs_spare, cs_locks, cs_closed]
  exact ⟨by decide, q⟩
theorem asstate_law {s : Stt} (A : AtD h o L (ffP s) sp d) (q : Q (sD (fin' s d)) h) : W (F_Draft_as_state [.ref o, .int s.ch, .int (s.num + 1)]) h Q := by
  unfold F_Draft_as_state B_Draft_as_state
  refine w_run rfl ?_
  simp (maxDischargeDepth := 9) only [W_seq, W_asg, W_set, W_V, WV_some, W_C, W_op, W_cmpT, W_isB, W_un, W_tru, W_andT, W_orT, W_notT, W_andV, W_orV, W_notV, W_ife, W_nil, W_cons, W_tup, W_lst, W_addI, W_subI, W_iaddI, W_negI, W_mulI, W_fdivI, W_modI, W_powI, W_cmpI, W_isB_bl, W_isNB, W_isN, W_isntB, W_isntN, W_eqI, W_neI, W_pass, W_brk, W_cont, W_drop, W_rt, W_rtN, W_ifS, W_gsNil, W_gsCons, W_gTup, W_aug, W_call, W_B, RtN_rt, RtN_nx, W_abs, W_intI, W_intB, W_noPart, W_part, W_sl, W_lm, W_lm0, W_iter, W_range1, W_range2, W_forE, W_revE, W_compE, W_yes, W_lenT, W_truB, W_truI, List.append_nil, List.getElem?_cons_zero, List.getElem?_cons_succ, List.set_cons_zero, List.set_cons_succ, List.getElem?_set_self, List.getElem?_set_ne, lt_set, ne_eq, Nat.reduceEqDiff, not_false_eq_true, Nat.reduceLT, Nat.zero_ne_one, Nat.one_ne_zero, Nat.lt_add_one, Nat.zero_lt_succ, startD, List.map_cons, List.map_nil, List.length_cons, List.length_nil, List.cons_append, List.nil_append, Nat.reduceAdd, Nat.reduceSub, Nat.zero_add, List.replicate_succ, List.replicate_zero, W_inSC, List.all_cons, List.all_nil, flatD, List.any_cons, List.any_nil, eqF, Bool.and_true, Bool.or_false, Bool.or_true, Bool.true_or, Bool.false_or, Bool.true_and, Bool.false_and, Option.some.injEq, D.int.injEq, exists_eq_left', exists_eq_left, W_listT, List.set_set, lt_push, len_lt, List.getElem?_append_left, W_fldC, W_setFC, W_clsC, W_methC, W_lenC, W_ixC, W_ixTO, W_isLstC, W_appC, W_listC, W_tupC, W_truC, W_slC, W_slTT, W_addTT, W_addC, W_setIC, W_getIC, W_delC, W_isDctC, W_dgetC, W_dictC, W_dict0, W_eqS, W_neS, W_eqB, W_neB, W_meth, W_make, W_setF, W_augF, W_callK, W_chain, W_chainT, W_del, W_gSub, W_augI, W_get1, W_srcC, WCell_some, WO_some, at0, at1, at2, at3, at4, at5, ix0, ix1, at_nat, memS, lookF, putFD, String.reduceEq, String.reduceBEq, if_true, if_false, Bool.false_eq_true, Option.isNone_none, true_and, and_true, and_self, get_push, isNonD, Bool.not_true, Bool.not_false, cs_from_first, cs_own, cs_others, cs_spare, cs_locks, cs_closed, A.eo, dF]
  simp only [fin', sD] at q
  cases hf : ffP s <;> simp (maxDischargeDepth := 9) only [hf, W_seq, W_asg, W_set, W_V, WV_some, W_C, W_op, W_cmpT, W_isB, W_un, W_tru, W_andT, W_orT, W_notT, W_andV, W_orV, W_notV, W_ife, W_nil, W_cons, W_tup, W_lst, W_addI, W_subI, W_iaddI, W_negI, W_mulI, W_fdivI, W_modI, W_powI, W_cmpI, W_isB_bl, W_isNB, W_isN, W_isntB, W_isntN, W_eqI, W_neI, W_pass, W_brk, W_cont, W_drop, W_rt, W_rtN, W_ifS, W_gsNil, W_gsCons, W_gTup, W_aug, W_call, W_B, RtN_rt, RtN_nx, W_abs, W_intI, W_intB, W_noPart, W_part, W_sl, W_lm, W_lm0, W_iter, W_range1, W_range2, W_forE, W_revE, W_compE, W_yes, W_lenT, W_truB, W_truI, List.append_nil, List.getElem?_cons_zero, List.getElem?_cons_succ, List.set_cons_zero, List.set_cons_succ, List.getElem?_set_self, List.getElem?_set_ne, lt_set, ne_eq, Nat.reduceEqDiff, not_false_eq_true, Nat.reduceLT, Nat.zero_ne_one, Nat.one_ne_zero, Nat.lt_add_one, Nat.zero_lt_succ, startD, List.map_cons, List.map_nil, List.length_cons, List.length_nil, List.cons_append, List.nil_append, Nat.reduceAdd, Nat.reduceSub, Nat.zero_add, List.replicate_succ, List.replicate_zero, W_inSC, List.all_cons, List.all_nil, flatD, List.any_cons, List.any_nil, eqF, Bool.and_true, Bool.or_false, Bool.or_true, Bool.true_or, Bool.false_or, Bool.true_and, Bool.false_and, Option.some.injEq, D.int.injEq, exists_eq_left', exists_eq_left, W_listT, List.set_set, lt_push, len_lt, List.getElem?_append_left, W_fldC, W_setFC, W_clsC, W_methC, W_lenC, W_ixC, W_ixTO, W_isLstC, W_appC, W_listC, W_tupC, W_truC, W_slC, W_slTT, W_addTT, W_addC, W_setIC, W_getIC, W_delC, W_isDctC, W_dgetC, W_dictC, W_dict0, W_eqS, W_neS, W_eqB, W_neB, W_meth, W_make, W_setF, W_augF, W_callK, W_chain, W_chainT, W_del, W_gSub, W_augI, W_get1, W_srcC, WCell_some, WO_some, at0, at1, at2, at3, at4, at5, ix0, ix1, at_nat, memS, lookF, putFD, String.reduceEq, String.reduceBEq, if_true, if_false, Bool.false_eq_true, Option.isNone_none, true_and, and_true, and_self, get_push, isNonD, Bool.not_true, Bool.not_false, cs_from_first, cs_own, cs_others, cs_spare, cs_locks, cs_closed, A.eo, A.eL, dF] at q ⊢
  · exact ⟨by decide, q⟩
  · exact ⟨by decide, q⟩
theorem init_law {s : Stt} {c1 c2 : Int} (eo : h[o]? = some (.ins "Draft" [])) (o2 : 2 ≤ o) (sz : s.locks.length ≤ 8) (q : ∀ h' L, Fr [o] h h' → h.length ≤ L → AtD h' o L (ffP s) (spP s c1 c2) (start s) → Q .non h') : W (F_Draft___init__ [.ref o, sD s, .tup [.int c1, .int c2]]) h Q := by
  unfold F_Draft___init__ B_Draft___init__
  refine w_run rfl ?_
  have lo := get_lt eo
  simp (maxDischargeDepth := 9) only [W_seq, W_asg, W_set, W_V, WV_some, W_C, W_op, W_cmpT, W_isB, W_un, W_tru, W_andT, W_orT, W_notT, W_andV, W_orV, W_notV, W_ife, W_nil, W_cons, W_tup, W_lst, W_addI, W_subI, W_iaddI, W_negI, W_mulI, W_fdivI, W_modI, W_powI, W_cmpI, W_isB_bl, W_isNB, W_isN, W_isntB, W_isntN, W_eqI, W_neI, W_pass, W_brk, W_cont, W_drop, W_rt, W_rtN, W_ifS, W_gsNil, W_gsCons, W_gTup, W_aug, W_call, W_B, RtN_rt, RtN_nx, W_abs, W_intI, W_intB, W_noPart, W_part, W_sl, W_lm, W_lm0, W_iter, W_range1, W_range2, W_forE, W_revE, W_compE, W_yes, W_lenT, W_truB, W_truI, List.append_nil, List.getElem?_cons_zero, List.getElem?_cons_succ, List.set_cons_zero, List.set_cons_succ, List.getElem?_set_self, List.getElem?_set_ne, lt_set, ne_eq, Nat.reduceEqDiff, not_false_eq_true, Nat.reduceLT, Nat.zero_ne_one, Nat.one_ne_zero, Nat.lt_add_one, Nat.zero_lt_succ, startD, List.map_cons, List.map_nil, List.length_cons, List.length_nil, List.cons_append, List.nil_append, Nat.reduceAdd, Nat.reduceSub, Nat.zero_add, List.replicate_succ, List.replicate_zero, W_inSC, List.all_cons, List.all_nil, flatD, List.any_cons, List.any_nil, eqF, Bool.and_true, Bool.or_false, Bool.or_true, Bool.true_or, Bool.false_or, Bool.true_and, Bool.false_and, Option.some.injEq, D.int.injEq, exists_eq_left', exists_eq_left, W_listT, List.set_set, lt_push, len_lt, List.getElem?_append_left, W_fldC, W_setFC, W_clsC, W_methC, W_lenC, W_ixC, W_ixTO, W_isLstC, W_appC, W_listC, W_tupC, W_truC, W_slC, W_slTT, W_addTT, W_addC, W_setIC, W_getIC, W_delC, W_isDctC, W_dgetC, W_dictC, W_dict0, W_eqS, W_neS, W_eqB, W_neB, W_meth, W_make, W_setF, W_augF, W_callK, W_chain, W_chainT, W_del, W_gSub, W_augI, W_get1, W_srcC, WCell_some, WO_some, at0, at1, at2, at3, at4, at5, ix0, ix1, at_nat, memS, lookF, putFD, String.reduceEq, String.reduceBEq, if_true, if_false, Bool.false_eq_true, Option.isNone_none, true_and, and_true, and_self, get_push, isNonD, Bool.not_true, Bool.not_false, cs_from_first, cs_own, cs_others, cs_spare, cs_locks, cs_closed, sD]
  refine first_law ?_
  simp (maxDischargeDepth := 9) only [W_seq, W_asg, W_set, W_V, WV_some, W_C, W_op, W_cmpT, W_isB, W_un, W_tru, W_andT, W_orT, W_notT, W_andV, W_orV, W_notV, W_ife, W_nil, W_cons, W_tup, W_lst, W_addI, W_subI, W_iaddI, W_negI, W_mulI, W_fdivI, W_modI, W_powI, W_cmpI, W_isB_bl, W_isNB, W_isN, W_isntB, W_isntN, W_eqI, W_neI, W_pass, W_brk, W_cont, W_drop, W_rt, W_rtN, W_ifS, W_gsNil, W_gsCons, W_gTup, W_aug, W_call, W_B, RtN_rt, RtN_nx, W_abs, W_intI, W_intB, W_noPart, W_part, W_sl, W_lm, W_lm0, W_iter, W_range1, W_range2, W_forE, W_revE, W_compE, W_yes, W_lenT, W_truB, W_truI, List.append_nil, List.getElem?_cons_zero, List.getElem?_cons_succ, List.set_cons_zero, List.set_cons_succ, List.getElem?_set_self, List.getElem?_set_ne, lt_set, ne_eq, Nat.reduceEqDiff, not_false_eq_true, Nat.reduceLT, Nat.zero_ne_one, Nat.one_ne_zero, Nat.lt_add_one, Nat.zero_lt_succ, startD, List.map_cons, List.map_nil, List.length_cons, List.length_nil, List.cons_append, List.nil_append, Nat.reduceAdd, Nat.reduceSub, Nat.zero_add, List.replicate_succ, List.replicate_zero, W_inSC, List.all_cons, List.all_nil, flatD, List.any_cons, List.any_nil, eqF, Bool.and_true, Bool.or_false, Bool.or_true, Bool.true_or, Bool.false_or, Bool.true_and, Bool.false_and, Option.some.injEq, D.int.injEq, exists_eq_left', exists_eq_left, W_listT, List.set_set, lt_push, len_lt, List.getElem?_append_left, W_fldC, W_setFC, W_clsC, W_methC, W_lenC, W_ixC, W_ixTO, W_isLstC, W_appC, W_listC, W_tupC, W_truC, W_slC, W_slTT, W_addTT, W_addC, W_setIC, W_getIC, W_delC, W_isDctC, W_dgetC, W_dictC, W_dict0, W_eqS, W_neS, W_eqB, W_neB, W_meth, W_make, W_setF, W_augF, W_callK, W_chain, W_chainT, W_del, W_gSub, W_augI, W_get1, W_srcC, WCell_some, WO_some, at0, at1, at2, at3, at4, at5, ix0, ix1, at_nat, memS, lookF, putFD, String.reduceEq, String.reduceBEq, if_true, if_false, Bool.false_eq_true, Option.isNone_none, true_and, and_true, and_self, get_push, isNonD, Bool.not_true, Bool.not_false, cs_from_first, cs_own, cs_others, cs_spare, cs_locks, cs_closed, eo, List.length_nil, lo, Nat.zero_lt_succ, List.length_set]
  have o1 : o ≠ 1 := by omega
  have nL : h.length ≠ o := by omega
  have e0 : ((s.num + 1) % 2 == 1) = ffP s := rfl
  rw [e0]
  cases hf : ffP s <;> simp (maxDischargeDepth := 9) only [W_seq, W_asg, W_set, W_V, WV_some, W_C, W_op, W_cmpT, W_isB, W_un, W_tru, W_andT, W_orT, W_notT, W_andV, W_orV, W_notV, W_ife, W_nil, W_cons, W_tup, W_lst, W_addI, W_subI, W_iaddI, W_negI, W_mulI, W_fdivI, W_modI, W_powI, W_cmpI, W_isB_bl, W_isNB, W_isN, W_isntB, W_isntN, W_eqI, W_neI, W_pass, W_brk, W_cont, W_drop, W_rt, W_rtN, W_ifS, W_gsNil, W_gsCons, W_gTup, W_aug, W_call, W_B, RtN_rt, RtN_nx, W_abs, W_intI, W_intB, W_noPart, W_part, W_sl, W_lm, W_lm0, W_iter, W_range1, W_range2, W_forE, W_revE, W_compE, W_yes, W_lenT, W_truB, W_truI, List.append_nil, List.getElem?_cons_zero, List.getElem?_cons_succ, List.set_cons_zero, List.set_cons_succ, List.getElem?_set_self, List.getElem?_set_ne, lt_set, ne_eq, Nat.reduceEqDiff, not_false_eq_true, Nat.reduceLT, Nat.zero_ne_one, Nat.one_ne_zero, Nat.lt_add_one, Nat.zero_lt_succ, startD, List.map_cons, List.map_nil, List.length_cons, List.length_nil, List.cons_append, List.nil_append, Nat.reduceAdd, Nat.reduceSub, Nat.zero_add, List.replicate_succ, List.replicate_zero, W_inSC, List.all_cons, List.all_nil, flatD, List.any_cons, List.any_nil, eqF, Bool.and_true, Bool.or_false, Bool.or_true, Bool.true_or, Bool.false_or, Bool.true_and, Bool.false_and, Option.some.injEq, D.int.injEq, exists_eq_left', exists_eq_left, W_listT, List.set_set, lt_push, len_lt, List.getElem?_append_left, W_fldC, W_setFC, W_clsC, W_methC, W_lenC, W_ixC, W_ixTO, W_isLstC, W_appC, W_listC, W_tupC, W_truC, W_slC, W_slTT, W_addTT, W_addC, W_setIC, W_getIC, W_delC, W_isDctC, W_dgetC, W_dictC, W_dict0, W_eqS, W_neS, W_eqB, W_neB, W_meth, W_make, W_setF, W_augF, W_callK, W_chain, W_chainT, W_del, W_gSub, W_augI, W_get1, W_srcC, WCell_some, WO_some, at0, at1, at2, at3, at4, at5, ix0, ix1, at_nat, memS, lookF, putFD, String.reduceEq, String.reduceBEq, if_true, if_false, Bool.false_eq_true, Option.isNone_none, true_and, and_true, and_self, get_push, isNonD, Bool.not_true, Bool.not_false, cs_from_first, cs_own, cs_others, cs_spare, cs_locks, cs_closed, eo, List.length_nil, lo, Nat.zero_lt_succ, List.length_set, List.set_append_left, hf]
  · refine q _ h.length ((Fr.write (n := o) (by simp) o1).trans .push) (Nat.le_refl _) ⟨?_, ?_, by omega, o2, by omega, sz⟩
    · rw [List.getElem?_append_left (by rw [List.length_set]; exact lo), List.getElem?_set_self lo]; simp [dF, start, hf, spP]
    · exact (get_push' (by simp)).trans (by simp [start])
  · refine q _ h.length ((Fr.write (n := o) (by simp) o1).trans .push) (Nat.le_refl _) ⟨?_, ?_, by omega, o2, by omega, sz⟩
    · rw [List.getElem?_append_left (by rw [List.length_set]; exact lo), List.getElem?_set_self lo]; simp [dF, start, hf, spP]
    · exact (get_push' (by simp)).trans (by simp [start])
theorem next_loop {ms : List Mv} {src : List D} (hsrc : src = ms.map mD) {h0 : Hd} {s : Stt} {σ : Ev} {QS : Fl → Hd → Prop} (sl : σ.length = 5) (s3 : σ[3]? = some (some (.ref o))) (A : AtD h0 o L ff sp d)
    (q0 : mks ff sp d ms = none → ∀ h', Fr [o, L] h0 h' → QS (.rt .non) h')
    (q1 : ∀ d' σ' h', mks ff sp d ms = some d' → Fr [o, L] h0 h' → AtD h' o L ff sp d' → σ'.length = 5 → σ'[0]? = σ[0]? → σ'[3]? = some (some (.ref o)) → QS (.nx σ') h') :
    W (forL (srcTp src) (gSet 4) L_next_state_0 ((srcTp src).fuel + 1) 0 σ) h0 QS := by
  subst hsrc
  refine w_forT (fun i σ' h' => Fr [o, L] h0 h' ∧ σ'.length = 5 ∧ σ'[0]? = σ[0]? ∧ σ'[3]? = some (some (.ref o)) ∧ ∃ d', AtD h' o L ff sp d' ∧ mks ff sp d ms = mks ff sp d' (ms.drop i)) ⟨.refl, sl, rfl, s3, d, A, by simp⟩ ?_ ?_
  · rintro i σ' h' hi ⟨F, sl', s0', s3', d', A', e⟩
    have hi' : i < ms.length := by simpa using hi
    have dr : ms.drop i = ms[i] :: ms.drop (i + 1) := List.drop_eq_getElem_cons hi'
    rw [dr, mks] at e
    rw [List.getElem_map]
    unfold Turn L_next_state_0
    simp (maxDischargeDepth := 9) only [W_seq, W_asg, W_set, W_V, WV_some, W_C, W_op, W_cmpT, W_isB, W_un, W_tru, W_andT, W_orT, W_notT, W_andV, W_orV, W_notV, W_ife, W_nil, W_cons, W_tup, W_lst, W_addI, W_subI, W_iaddI, W_negI, W_mulI, W_fdivI, W_modI, W_powI, W_cmpI, W_isB_bl, W_isNB, W_isN, W_isntB, W_isntN, W_eqI, W_neI, W_pass, W_brk, W_cont, W_drop, W_rt, W_rtN, W_ifS, W_gsNil, W_gsCons, W_gTup, W_aug, W_call, W_B, RtN_rt, RtN_nx, W_abs, W_intI, W_intB, W_noPart, W_part, W_sl, W_lm, W_lm0, W_iter, W_range1, W_range2, W_forE, W_revE, W_compE, W_yes, W_lenT, W_truB, W_truI, List.append_nil, List.getElem?_cons_zero, List.getElem?_cons_succ, List.set_cons_zero, List.set_cons_succ, List.getElem?_set_self, List.getElem?_set_ne, lt_set, ne_eq, Nat.reduceEqDiff, not_false_eq_true, Nat.reduceLT, Nat.zero_ne_one, Nat.one_ne_zero, Nat.lt_add_one, Nat.zero_lt_succ, startD, List.map_cons, List.map_nil, List.length_cons, List.length_nil, List.cons_append, List.nil_append, Nat.reduceAdd, Nat.reduceSub, Nat.zero_add, List.replicate_succ, List.replicate_zero, W_inSC, List.all_cons, List.all_nil, flatD, List.any_cons, List.any_nil, eqF, Bool.and_true, Bool.or_false, Bool.or_true, Bool.true_or, Bool.false_or, Bool.true_and, Bool.false_and, Option.some.injEq, D.int.injEq, exists_eq_left', exists_eq_left, W_listT, List.set_set, lt_push, len_lt, List.getElem?_append_left, W_fldC, W_setFC, W_clsC, W_methC, W_lenC, W_ixC, W_ixTO, W_isLstC, W_appC, W_listC, W_tupC, W_truC, W_slC, W_slTT, W_addTT, W_addC, W_setIC, W_getIC, W_delC, W_isDctC, W_dgetC, W_dictC, W_dict0, W_eqS, W_neS, W_eqB, W_neB, W_meth, W_make, W_setF, W_augF, W_callK, W_chain, W_chainT, W_del, W_gSub, W_augI, W_get1, W_srcC, WCell_some, WO_some, at0, at1, at2, at3, at4, at5, ix0, ix1, at_nat, memS, lookF, putFD, String.reduceEq, String.reduceBEq, if_true, if_false, Bool.false_eq_true, Option.isNone_none, true_and, and_true, and_self, get_push, isNonD, Bool.not_true, Bool.not_false, cs_from_first, cs_own, cs_others, cs_spare, cs_locks, cs_closed, sl', s3', A'.eo, dF]
    refine make_law A' (fun d2 h2 e2 F2 A2 => ?_) fun e2 => ?_
    · simp (maxDischargeDepth := 9) only [W_seq, W_asg, W_set, W_V, WV_some, W_C, W_op, W_cmpT, W_isB, W_un, W_tru, W_andT, W_orT, W_notT, W_andV, W_orV, W_notV, W_ife, W_nil, W_cons, W_tup, W_lst, W_addI, W_subI, W_iaddI, W_negI, W_mulI, W_fdivI, W_modI, W_powI, W_cmpI, W_isB_bl, W_isNB, W_isN, W_isntB, W_isntN, W_eqI, W_neI, W_pass, W_brk, W_cont, W_drop, W_rt, W_rtN, W_ifS, W_gsNil, W_gsCons, W_gTup, W_aug, W_call, W_B, RtN_rt, RtN_nx, W_abs, W_intI, W_intB, W_noPart, W_part, W_sl, W_lm, W_lm0, W_iter, W_range1, W_range2, W_forE, W_revE, W_compE, W_yes, W_lenT, W_truB, W_truI, List.append_nil, List.getElem?_cons_zero, List.getElem?_cons_succ, List.set_cons_zero, List.set_cons_succ, List.getElem?_set_self, List.getElem?_set_ne, lt_set, ne_eq, Nat.reduceEqDiff, not_false_eq_true, Nat.reduceLT, Nat.zero_ne_one, Nat.one_ne_zero, Nat.lt_add_one, Nat.zero_lt_succ, startD, List.map_cons, List.map_nil, List.length_cons, List.length_nil, List.cons_append, List.nil_append, Nat.reduceAdd, Nat.reduceSub, Nat.zero_add, List.replicate_succ, List.replicate_zero, W_inSC, List.all_cons, List.all_nil, flatD, List.any_cons, List.any_nil, eqF, Bool.and_true, Bool.or_false, Bool.or_true, Bool.true_or, Bool.false_or, Bool.true_and, Bool.false_and, Option.some.injEq, D.int.injEq, exists_eq_left', exists_eq_left, W_listT, List.set_set, lt_push, len_lt, List.getElem?_append_left, W_fldC, W_setFC, W_clsC, W_methC, W_lenC, W_ixC, W_ixTO, W_isLstC, W_appC, W_listC, W_tupC, W_truC, W_slC, W_slTT, W_addTT, W_addC, W_setIC, W_getIC, W_delC, W_isDctC, W_dgetC, W_dictC, W_dict0, W_eqS, W_neS, W_eqB, W_neB, W_meth, W_make, W_setF, W_augF, W_callK, W_chain, W_chainT, W_del, W_gSub, W_augI, W_get1, W_srcC, WCell_some, WO_some, at0, at1, at2, at3, at4, at5, ix0, ix1, at_nat, memS, lookF, putFD, String.reduceEq, String.reduceBEq, if_true, if_false, Bool.false_eq_true, Option.isNone_none, true_and, and_true, and_self, get_push, isNonD, Bool.not_true, Bool.not_false, cs_from_first, cs_own, cs_others, cs_spare, cs_locks, cs_closed]
      exact ⟨F.trans F2, by simp [sl'], by simp [s0'], by simp [s3'], d2, A2, by rw [e, e2]; rfl⟩
    · simp (maxDischargeDepth := 9) only [W_seq, W_asg, W_set, W_V, WV_some, W_C, W_op, W_cmpT, W_isB, W_un, W_tru, W_andT, W_orT, W_notT, W_andV, W_orV, W_notV, W_ife, W_nil, W_cons, W_tup, W_lst, W_addI, W_subI, W_iaddI, W_negI, W_mulI, W_fdivI, W_modI, W_powI, W_cmpI, W_isB_bl, W_isNB, W_isN, W_isntB, W_isntN, W_eqI, W_neI, W_pass, W_brk, W_cont, W_drop, W_rt, W_rtN, W_ifS, W_gsNil, W_gsCons, W_gTup, W_aug, W_call, W_B, RtN_rt, RtN_nx, W_abs, W_intI, W_intB, W_noPart, W_part, W_sl, W_lm, W_lm0, W_iter, W_range1, W_range2, W_forE, W_revE, W_compE, W_yes, W_lenT, W_truB, W_truI, List.append_nil, List.getElem?_cons_zero, List.getElem?_cons_succ, List.set_cons_zero, List.set_cons_succ, List.getElem?_set_self, List.getElem?_set_ne, lt_set, ne_eq, Nat.reduceEqDiff, not_false_eq_true, Nat.reduceLT, Nat.zero_ne_one, Nat.one_ne_zero, Nat.lt_add_one, Nat.zero_lt_succ, startD, List.map_cons, List.map_nil, List.length_cons, List.length_nil, List.cons_append, List.nil_append, Nat.reduceAdd, Nat.reduceSub, Nat.zero_add, List.replicate_succ, List.replicate_zero, W_inSC, List.all_cons, List.all_nil, flatD, List.any_cons, List.any_nil, eqF, Bool.and_true, Bool.or_false, Bool.or_true, Bool.true_or, Bool.false_or, Bool.true_and, Bool.false_and, Option.some.injEq, D.int.injEq, exists_eq_left', exists_eq_left, W_listT, List.set_set, lt_push, len_lt, List.getElem?_append_left, W_fldC, W_setFC, W_clsC, W_methC, W_lenC, W_ixC, W_ixTO, W_isLstC, W_appC, W_listC, W_tupC, W_truC, W_slC, W_slTT, W_addTT, W_addC, W_setIC, W_getIC, W_delC, W_isDctC, W_dgetC, W_dictC, W_dict0, W_eqS, W_neS, W_eqB, W_neB, W_meth, W_make, W_setF, W_augF, W_callK, W_chain, W_chainT, W_del, W_gSub, W_augI, W_get1, W_srcC, WCell_some, WO_some, at0, at1, at2, at3, at4, at5, ix0, ix1, at_nat, memS, lookF, putFD, String.reduceEq, String.reduceBEq, if_true, if_false, Bool.false_eq_true, Option.isNone_none, true_and, and_true, and_self, get_push, isNonD, Bool.not_true, Bool.not_false, cs_from_first, cs_own, cs_others, cs_spare, cs_locks, cs_closed]
      exact q0 (by rw [e, e2]; rfl) _ F
  · rintro σ' h' ⟨F, sl', s0', s3', d', A', e⟩
    rw [List.length_map, List.drop_length, mks] at e
    exact q1 d' σ' h' e F A' sl' s0' s3'
theorem next_law {ms : List Mv} {s : Stt} {c1 c2 : Int} (h2 : 2 ≤ h.length) (sz : s.locks.length ≤ 8) (q : ∀ h', Fr [] h h' → Q (oD (nx s ms c1 c2)) h') : W (F_next_state [sD s, .tup (ms.map mD), .tup [.int c1, .int c2]]) h Q := by
  unfold F_next_state B_next_state
  refine w_run rfl ?_
  simp (maxDischargeDepth := 9) only [W_seq, W_asg, W_set, W_V, WV_some, W_C, W_op, W_cmpT, W_isB, W_un, W_tru, W_andT, W_orT, W_notT, W_andV, W_orV, W_notV, W_ife, W_nil, W_cons, W_tup, W_lst, W_addI, W_subI, W_iaddI, W_negI, W_mulI, W_fdivI, W_modI, W_powI, W_cmpI, W_isB_bl, W_isNB, W_isN, W_isntB, W_isntN, W_eqI, W_neI, W_pass, W_brk, W_cont, W_drop, W_rt, W_rtN, W_ifS, W_gsNil, W_gsCons, W_gTup, W_aug, W_call, W_B, RtN_rt, RtN_nx, W_abs, W_intI, W_intB, W_noPart, W_part, W_sl, W_lm, W_lm0, W_iter, W_range1, W_range2, W_forE, W_revE, W_compE, W_yes, W_lenT, W_truB, W_truI, List.append_nil, List.getElem?_cons_zero, List.getElem?_cons_succ, List.set_cons_zero, List.set_cons_succ, List.getElem?_set_self, List.getElem?_set_ne, lt_set, ne_eq, Nat.reduceEqDiff, not_false_eq_true, Nat.reduceLT, Nat.zero_ne_one, Nat.one_ne_zero, Nat.lt_add_one, Nat.zero_lt_succ, startD, List.map_cons, List.map_nil, List.length_cons, List.length_nil, List.cons_append, List.nil_append, Nat.reduceAdd, Nat.reduceSub, Nat.zero_add, List.replicate_succ, List.replicate_zero, W_inSC, List.all_cons, List.all_nil, flatD, List.any_cons, List.any_nil, eqF, Bool.and_true, Bool.or_false, Bool.or_true, Bool.true_or, Bool.false_or, Bool.true_and, Bool.false_and, Option.some.injEq, D.int.injEq, exists_eq_left', exists_eq_left, W_listT, List.set_set, lt_push, len_lt, List.getElem?_append_left, W_fldC, W_setFC, W_clsC, W_methC, W_lenC, W_ixC, W_ixTO, W_isLstC, W_appC, W_listC, W_tupC, W_truC, W_slC, W_slTT, W_addTT, W_addC, W_setIC, W_getIC, W_delC, W_isDctC, W_dgetC, W_dictC, W_dict0, W_eqS, W_neS, W_eqB, W_neB, W_meth, W_make, W_setF, W_augF, W_callK, W_chain, W_chainT, W_del, W_gSub, W_augI, W_get1, W_srcC, WCell_some, WO_some, at0, at1, at2, at3, at4, at5, ix0, ix1, at_nat, memS, lookF, putFD, String.reduceEq, String.reduceBEq, if_true, if_false, Bool.false_eq_true, Option.isNone_none, true_and, and_true, and_self, get_push, isNonD, Bool.not_true, Bool.not_false, cs_from_first, cs_own, cs_others, cs_spare, cs_locks, cs_closed, sD]
  cases hc : s.cl
  · simp (maxDischargeDepth := 9) only [W_seq, W_asg, W_set, W_V, WV_some, W_C, W_op, W_cmpT, W_isB, W_un, W_tru, W_andT, W_orT, W_notT, W_andV, W_orV, W_notV, W_ife, W_nil, W_cons, W_tup, W_lst, W_addI, W_subI, W_iaddI, W_negI, W_mulI, W_fdivI, W_modI, W_powI, W_cmpI, W_isB_bl, W_isNB, W_isN, W_isntB, W_isntN, W_eqI, W_neI, W_pass, W_brk, W_cont, W_drop, W_rt, W_rtN, W_ifS, W_gsNil, W_gsCons, W_gTup, W_aug, W_call, W_B, RtN_rt, RtN_nx, W_abs, W_intI, W_intB, W_noPart, W_part, W_sl, W_lm, W_lm0, W_iter, W_range1, W_range2, W_forE, W_revE, W_compE, W_yes, W_lenT, W_truB, W_truI, List.append_nil, List.getElem?_cons_zero, List.getElem?_cons_succ, List.set_cons_zero, List.set_cons_succ, List.getElem?_set_self, List.getElem?_set_ne, lt_set, ne_eq, Nat.reduceEqDiff, not_false_eq_true, Nat.reduceLT, Nat.zero_ne_one, Nat.one_ne_zero, Nat.lt_add_one, Nat.zero_lt_succ, startD, List.map_cons, List.map_nil, List.length_cons, List.length_nil, List.cons_append, List.nil_append, Nat.reduceAdd, Nat.reduceSub, Nat.zero_add, List.replicate_succ, List.replicate_zero, W_inSC, List.all_cons, List.all_nil, flatD, List.any_cons, List.any_nil, eqF, Bool.and_true, Bool.or_false, Bool.or_true, Bool.true_or, Bool.false_or, Bool.true_and, Bool.false_and, Option.some.injEq, D.int.injEq, exists_eq_left', exists_eq_left, W_listT, List.set_set, lt_push, len_lt, List.getElem?_append_left, W_fldC, W_setFC, W_clsC, W_methC, W_lenC, W_ixC, W_ixTO, W_isLstC, W_appC, W_listC, W_tupC, W_truC, W_slC, W_slTT, W_addTT, W_addC, W_setIC, W_getIC, W_delC, W_isDctC, W_dgetC, W_dictC, W_dict0, W_eqS, W_neS, W_eqB, W_neB, W_meth, W_make, W_setF, W_augF, W_callK, W_chain, W_chainT, W_del, W_gSub, W_augI, W_get1, W_srcC, WCell_some, WO_some, at0, at1, at2, at3, at4, at5, ix0, ix1, at_nat, memS, lookF, putFD, String.reduceEq, String.reduceBEq, if_true, if_false, Bool.false_eq_true, Option.isNone_none, true_and, and_true, and_self, get_push, isNonD, Bool.not_true, Bool.not_false, cs_from_first, cs_own, cs_others, cs_spare, cs_locks, cs_closed]
    rw [show D.tup [.int s.ch, .int s.num, .int s.a, .int s.b, .tup (s.locks.map lD), .bl false] = sD s by simp [sD, hc]]
    refine init_law (s := s) (o := h.length) get_push h2 sz fun h1 L F hL A => ?_
    simp (maxDischargeDepth := 9) only [W_seq, W_asg, W_set, W_V, WV_some, W_C, W_op, W_cmpT, W_isB, W_un, W_tru, W_andT, W_orT, W_notT, W_andV, W_orV, W_notV, W_ife, W_nil, W_cons, W_tup, W_lst, W_addI, W_subI, W_iaddI, W_negI, W_mulI, W_fdivI, W_modI, W_powI, W_cmpI, W_isB_bl, W_isNB, W_isN, W_isntB, W_isntN, W_eqI, W_neI, W_pass, W_brk, W_cont, W_drop, W_rt, W_rtN, W_ifS, W_gsNil, W_gsCons, W_gTup, W_aug, W_call, W_B, RtN_rt, RtN_nx, W_abs, W_intI, W_intB, W_noPart, W_part, W_sl, W_lm, W_lm0, W_iter, W_range1, W_range2, W_forE, W_revE, W_compE, W_yes, W_lenT, W_truB, W_truI, List.append_nil, List.getElem?_cons_zero, List.getElem?_cons_succ, List.set_cons_zero, List.set_cons_succ, List.getElem?_set_self, List.getElem?_set_ne, lt_set, ne_eq, Nat.reduceEqDiff, not_false_eq_true, Nat.reduceLT, Nat.zero_ne_one, Nat.one_ne_zero, Nat.lt_add_one, Nat.zero_lt_succ, startD, List.map_cons, List.map_nil, List.length_cons, List.length_nil, List.cons_append, List.nil_append, Nat.reduceAdd, Nat.reduceSub, Nat.zero_add, List.replicate_succ, List.replicate_zero, W_inSC, List.all_cons, List.all_nil, flatD, List.any_cons, List.any_nil, eqF, Bool.and_true, Bool.or_false, Bool.or_true, Bool.true_or, Bool.false_or, Bool.true_and, Bool.false_and, Option.some.injEq, D.int.injEq, exists_eq_left', exists_eq_left, W_listT, List.set_set, lt_push, len_lt, List.getElem?_append_left, W_fldC, W_setFC, W_clsC, W_methC, W_lenC, W_ixC, W_ixTO, W_isLstC, W_appC, W_listC, W_tupC, W_truC, W_slC, W_slTT, W_addTT, W_addC, W_setIC, W_getIC, W_delC, W_isDctC, W_dgetC, W_dictC, W_dict0, W_eqS, W_neS, W_eqB, W_neB, W_meth, W_make, W_setF, W_augF, W_callK, W_chain, W_chainT, W_del, W_gSub, W_augI, W_get1, W_srcC, WCell_some, WO_some, at0, at1, at2, at3, at4, at5, ix0, ix1, at_nat, memS, lookF, putFD, String.reduceEq, String.reduceBEq, if_true, if_false, Bool.false_eq_true, Option.isNone_none, true_and, and_true, and_self, get_push, isNonD, Bool.not_true, Bool.not_false, cs_from_first, cs_own, cs_others, cs_spare, cs_locks, cs_closed]
    rw [W_srcTp]
    have F0 : Fr [h.length, L] h h1 := (Fr.mono (S := []) .push (fun _ _ z => by cases z)).trans (F.mono fun i _ z => by simp at z; simp [z])
    have hL2 : h.length ≤ L := by simp at hL; omega
    have drop : ∀ h', Fr [h.length, L] h h' → Fr [] h h' := fun h' G => G.mono fun i hi z => by
      simp at z; omega
    refine next_loop rfl (s := s) rfl rfl A (fun e h' G => ?_) fun d' σ' h' e G A' sl' s0' s3' => ?_
    · have e3 : nx s ms c1 c2 = none := by simp [nx, hc, e]
      have := q h' (drop _ (F0.trans G))
      rw [e3] at this
      exact this
    · simp (maxDischargeDepth := 9) only [W_seq, W_asg, W_set, W_V, WV_some, W_C, W_op, W_cmpT, W_isB, W_un, W_tru, W_andT, W_orT, W_notT, W_andV, W_orV, W_notV, W_ife, W_nil, W_cons, W_tup, W_lst, W_addI, W_subI, W_iaddI, W_negI, W_mulI, W_fdivI, W_modI, W_powI, W_cmpI, W_isB_bl, W_isNB, W_isN, W_isntB, W_isntN, W_eqI, W_neI, W_pass, W_brk, W_cont, W_drop, W_rt, W_rtN, W_ifS, W_gsNil, W_gsCons, W_gTup, W_aug, W_call, W_B, RtN_rt, RtN_nx, W_abs, W_intI, W_intB, W_noPart, W_part, W_sl, W_lm, W_lm0, W_iter, W_range1, W_range2, W_forE, W_revE, W_compE, W_yes, W_lenT, W_truB, W_truI, List.append_nil, List.getElem?_cons_zero, List.getElem?_cons_succ, List.set_cons_zero, List.set_cons_succ, List.getElem?_set_self, List.getElem?_set_ne, lt_set, ne_eq, Nat.reduceEqDiff, not_false_eq_true, Nat.reduceLT, Nat.zero_ne_one, Nat.one_ne_zero, Nat.lt_add_one, Nat.zero_lt_succ, startD, List.map_cons, List.map_nil, List.length_cons, List.length_nil, List.cons_append, List.nil_append, Nat.reduceAdd, Nat.reduceSub, Nat.zero_add, List.replicate_succ, List.replicate_zero, W_inSC, List.all_cons, List.all_nil, flatD, List.any_cons, List.any_nil, eqF, Bool.and_true, Bool.or_false, Bool.or_true, Bool.true_or, Bool.false_or, Bool.true_and, Bool.false_and, Option.some.injEq, D.int.injEq, exists_eq_left', exists_eq_left, W_listT, List.set_set, lt_push, len_lt, List.getElem?_append_left, W_fldC, W_setFC, W_clsC, W_methC, W_lenC, W_ixC, W_ixTO, W_isLstC, W_appC, W_listC, W_tupC, W_truC, W_slC, W_slTT, W_addTT, W_addC, W_setIC, W_getIC, W_delC, W_isDctC, W_dgetC, W_dictC, W_dict0, W_eqS, W_neS, W_eqB, W_neB, W_meth, W_make, W_setF, W_augF, W_callK, W_chain, W_chainT, W_del, W_gSub, W_augI, W_get1, W_srcC, WCell_some, WO_some, at0, at1, at2, at3, at4, at5, ix0, ix1, at_nat, memS, lookF, putFD, String.reduceEq, String.reduceBEq, if_true, if_false, Bool.false_eq_true, Option.isNone_none, true_and, and_true, and_self, get_push, isNonD, Bool.not_true, Bool.not_false, cs_from_first, cs_own, cs_others, cs_spare, cs_locks, cs_closed, s0', s3', A'.eo, dF, sD]
      refine asstate_law (s := s) A' ?_
      have e3 : nx s ms c1 c2 = some (fin' s d') := by simp [nx, hc, e]
      have := q h' (drop _ (F0.trans G))
      rw [e3] at this
      exact this
  · simp (maxDischargeDepth := 9) only [W_seq, W_asg, W_set, W_V, WV_some, W_C, W_op, W_cmpT, W_isB, W_un, W_tru, W_andT, W_orT, W_notT, W_andV, W_orV, W_notV, W_ife, W_nil, W_cons, W_tup, W_lst, W_addI, W_subI, W_iaddI, W_negI, W_mulI, W_fdivI, W_modI, W_powI, W_cmpI, W_isB_bl, W_isNB, W_isN, W_isntB, W_isntN, W_eqI, W_neI, W_pass, W_brk, W_cont, W_drop, W_rt, W_rtN, W_ifS, W_gsNil, W_gsCons, W_gTup, W_aug, W_call, W_B, RtN_rt, RtN_nx, W_abs, W_intI, W_intB, W_noPart, W_part, W_sl, W_lm, W_lm0, W_iter, W_range1, W_range2, W_forE, W_revE, W_compE, W_yes, W_lenT, W_truB, W_truI, List.append_nil, List.getElem?_cons_zero, List.getElem?_cons_succ, List.set_cons_zero, List.set_cons_succ, List.getElem?_set_self, List.getElem?_set_ne, lt_set, ne_eq, Nat.reduceEqDiff, not_false_eq_true, Nat.reduceLT, Nat.zero_ne_one, Nat.one_ne_zero, Nat.lt_add_one, Nat.zero_lt_succ, startD, List.map_cons, List.map_nil, List.length_cons, List.length_nil, List.cons_append, List.nil_append, Nat.reduceAdd, Nat.reduceSub, Nat.zero_add, List.replicate_succ, List.replicate_zero, W_inSC, List.all_cons, List.all_nil, flatD, List.any_cons, List.any_nil, eqF, Bool.and_true, Bool.or_false, Bool.or_true, Bool.true_or, Bool.false_or, Bool.true_and, Bool.false_and, Option.some.injEq, D.int.injEq, exists_eq_left', exists_eq_left, W_listT, List.set_set, lt_push, len_lt, List.getElem?_append_left, W_fldC, W_setFC, W_clsC, W_methC, W_lenC, W_ixC, W_ixTO, W_isLstC, W_appC, W_listC, W_tupC, W_truC, W_slC, W_slTT, W_addTT, W_addC, W_setIC, W_getIC, W_delC, W_isDctC, W_dgetC, W_dictC, W_dict0, W_eqS, W_neS, W_eqB, W_neB, W_meth, W_make, W_setF, W_augF, W_callK, W_chain, W_chainT, W_del, W_gSub, W_augI, W_get1, W_srcC, WCell_some, WO_some, at0, at1, at2, at3, at4, at5, ix0, ix1, at_nat, memS, lookF, putFD, String.reduceEq, String.reduceBEq, if_true, if_false, Bool.false_eq_true, Option.isNone_none, true_and, and_true, and_self, get_push, isNonD, Bool.not_true, Bool.not_false, cs_from_first, cs_own, cs_others, cs_spare, cs_locks, cs_closed]
    have e3 : nx s ms c1 c2 = none := by simp [nx, hc]
    have := q h .refl
    rw [e3] at this
    exact this
end
end Lk00

set_option Elab.async false
set_option linter.all false
set_option autoImplicit false
set_option maxRecDepth 100000
set_option maxHeartbeats 4000000
namespace Lk00
open Dt PySem
theorem mine_eq (n : Int) : (n - 2 * (n / 2) == 0) = ((n + 1) % 2 == 1) := by
  rw [Bool.eq_iff_iff, beq_iff_eq, beq_iff_eq]; omega
section
variable {h : Hd} {Q : D → Hd → Prop}
theorem lkey_law {s : Int} (q : Q (.int (keyP s)) h) : W (F__law_key [.int s]) h Q := by
  unfold F__law_key B__law_key
  refine w_run rfl ?_
  simp (maxDischargeDepth := 9) only [W_seq, W_asg, W_set, W_V, WV_some, W_C, W_op, W_cmpT, W_isB, W_un, W_tru, W_andT, W_orT, W_notT, W_andV, W_orV, W_notV, W_ife, W_nil, W_cons, W_tup, W_lst, W_addI, W_subI, W_iaddI, W_negI, W_mulI, W_fdivI, W_modI, W_powI, W_cmpI, W_isB_bl, W_isNB, W_isN, W_isntB, W_isntN, W_eqI, W_neI, W_pass, W_brk, W_cont, W_drop, W_rt, W_rtN, W_ifS, W_gsNil, W_gsCons, W_gTup, W_aug, W_call, W_B, RtN_rt, RtN_nx, W_abs, W_intI, W_intB, W_noPart, W_part, W_sl, W_lm, W_lm0, W_iter, W_range1, W_range2, W_forE, W_revE, W_compE, W_yes, W_lenT, W_truB, W_truI, List.append_nil, List.getElem?_cons_zero, List.getElem?_cons_succ, List.set_cons_zero, List.set_cons_succ, List.getElem?_set_self, List.getElem?_set_ne, lt_set, ne_eq, Nat.reduceEqDiff, not_false_eq_true, Nat.reduceLT, Nat.zero_ne_one, Nat.one_ne_zero, Nat.lt_add_one, Nat.zero_lt_succ, startD, List.map_cons, List.map_nil, List.length_cons, List.length_nil, List.cons_append, List.nil_append, Nat.reduceAdd, Nat.reduceSub, Nat.zero_add, List.replicate_succ, List.replicate_zero, W_inSC, List.all_cons, List.all_nil, flatD, List.any_cons, List.any_nil, eqF, Bool.and_true, Bool.or_false, Bool.or_true, Bool.true_or, Bool.false_or, Bool.true_and, Bool.false_and, Option.some.injEq, D.int.injEq, exists_eq_left', exists_eq_left, W_listT, List.set_set, lt_push, len_lt, List.getElem?_append_left, W_fldC, W_setFC, W_clsC, W_methC, W_lenC, W_ixC, W_ixTO, W_isLstC, W_appC, W_listC, W_tupC, W_truC, W_slC, W_slTT, W_addTT, W_addC, W_setIC, W_getIC, W_delC, W_isDctC, W_dgetC, W_dictC, W_dict0, W_eqS, W_neS, W_eqB, W_neB, W_meth, W_make, W_setF, W_augF, W_callK, W_chain, W_chainT, W_del, W_gSub, W_augI, W_get1, W_srcC, WCell_some, WO_some, at0, at1, at2, at3, at4, at5, ix0, ix1, at_nat, memS, lookF, putFD, String.reduceEq, String.reduceBEq, if_true, if_false, Bool.false_eq_true, Option.isNone_none, true_and, and_true, and_self, get_push, isNonD, Bool.not_true, Bool.not_false, cs_from_first, cs_own, cs_others, cs_spare, cs_locks, cs_closed]
  exact ⟨.inr (by decide), by decide, q⟩
theorem pop_cut {α : Type} (xs : List α) (p : Nat) : xs.take p ++ xs.drop (p + 1) = xs.eraseIdx p := (List.eraseIdx_eq_take_drop_succ xs p).symm
theorem cut1 {xs : List D} {p : Nat} (hp : p < xs.length) : cutD xs none (some ((p : Nat) : Int)) = xs.take p := by
  unfold cutD
  rw [HT.sIx_nat, HT.sIx_none, Nat.min_eq_left (by omega), List.drop_zero, Nat.sub_zero]
theorem cut2 {xs : List D} {p : Nat} (hp : p < xs.length) : cutD xs (some ((p : Nat) + 1 : Int)) none = xs.drop (p + 1) := by
  unfold cutD
  rw [show ((p : Nat) + 1 : Int) = ((p + 1 : Nat) : Int) by omega, HT.sIx_nat, HT.sIx_none, Nat.min_eq_left (by omega), List.take_of_length_le (by simp)]
/-- what one turn of _law_moved leaves -/
structure AtM (h0 h : Hd) (σ : Ev) (s : Stt) (sp : Int) (M : Nat) (d : Dr) : Prop where
  fr : Fr [] h0 h
  sl : σ.length = 20
  s3 : σ[3]? = some (some (.int s.ch))
  s4 : σ[4]? = some (some (.int s.num))
  s8 : σ[8]? = some (some (.bl false))
  s9 : σ[9]? = some (some (.bl (ffP s)))
  s11 : σ[11]? = some (some (.int sp))
  s13 : σ[13]? = some (some (.bl d.cl))
  sz : d.locks.length ≤ 8
  ex : ∃ A R, σ[10]? = some (some (.ref A)) ∧ σ[12]? = some (some (.ref R)) ∧ h[A]? = some (.lst [.int d.own, .int d.oth]) ∧ h[R]? = some (.lst (d.locks.map lD)) ∧ A ≠ R ∧ h0.length ≤ A ∧ h0.length ≤ R
theorem moved_turn {h0 : Hd} {σ : Ev} {s : Stt} {sp : Int} {M : Nat} {d : Dr} {m : Mv} {QX : Fl → Hd → Prop} (h2 : 2 ≤ h0.length) (A : AtM h0 h σ s sp M d)
    (q0 : mk (ffP s) sp d m = none → ∀ h', Fr [] h0 h' → QX (.rt .non) h')
    (q1 : ∀ d' σ' h', mk (ffP s) sp d m = some d' → AtM h0 h' σ' s sp M d' → QX (.nx σ') h') : W (gSet 14 (mD m) σ) h fun σ1 h1 => W (L__law_moved_0 σ1) h1 QX := by
  obtain ⟨F, sl, s3, s4, s8, s9, s11, s13, sz, a, r, s10, s12, ea, er, ne, la, lr⟩ := A
  have ha := get_lt ea
  have hr := get_lt er
  have ne' := ne.symm
  have fa : ∀ {h' : Hd}, Fr [a, r] h h' → Fr [] h0 h' := fun G => (F.mono (fun _ _ z => by cases z) |>.trans G).mono fun i hi z => by simp at z; omega
  have a2 : a ≠ 1 := by omega
  have r2 : r ≠ 1 := by omega
  unfold L__law_moved_0
  cases m with
  | lock k am dl =>
    simp (maxDischargeDepth := 9) only [W_seq, W_asg, W_set, W_V, WV_some, W_C, W_op, W_cmpT, W_isB, W_un, W_tru, W_andT, W_orT, W_notT, W_andV, W_orV, W_notV, W_ife, W_nil, W_cons, W_tup, W_lst, W_addI, W_subI, W_iaddI, W_negI, W_mulI, W_fdivI, W_modI, W_powI, W_cmpI, W_isB_bl, W_isNB, W_isN, W_isntB, W_isntN, W_eqI, W_neI, W_pass, W_brk, W_cont, W_drop, W_rt, W_rtN, W_ifS, W_gsNil, W_gsCons, W_gTup, W_aug, W_call, W_B, RtN_rt, RtN_nx, W_abs, W_intI, W_intB, W_noPart, W_part, W_sl, W_lm, W_lm0, W_iter, W_range1, W_range2, W_forE, W_revE, W_compE, W_yes, W_lenT, W_truB, W_truI, List.append_nil, List.getElem?_cons_zero, List.getElem?_cons_succ, List.set_cons_zero, List.set_cons_succ, List.getElem?_set_self, List.getElem?_set_ne, lt_set, ne_eq, Nat.reduceEqDiff, not_false_eq_true, Nat.reduceLT, Nat.zero_ne_one, Nat.one_ne_zero, Nat.lt_add_one, Nat.zero_lt_succ, startD, List.map_cons, List.map_nil, List.length_cons, List.length_nil, List.cons_append, List.nil_append, Nat.reduceAdd, Nat.reduceSub, Nat.zero_add, List.replicate_succ, List.replicate_zero, W_inSC, List.all_cons, List.all_nil, flatD, List.any_cons, List.any_nil, eqF, Bool.and_true, Bool.or_false, Bool.or_true, Bool.true_or, Bool.false_or, Bool.true_and, Bool.false_and, Option.some.injEq, D.int.injEq, exists_eq_left', exists_eq_left, W_listT, List.set_set, lt_push, len_lt, List.getElem?_append_left, W_fldC, W_setFC, W_clsC, W_methC, W_lenC, W_ixC, W_ixTO, W_isLstC, W_appC, W_listC, W_tupC, W_truC, W_slC, W_slTT, W_addTT, W_addC, W_setIC, W_getIC, W_delC, W_isDctC, W_dgetC, W_dictC, W_dict0, W_eqS, W_neS, W_eqB, W_neB, W_meth, W_make, W_setF, W_augF, W_callK, W_chain, W_chainT, W_del, W_gSub, W_augI, W_get1, W_srcC, WCell_some, WO_some, at0, at1, at2, at3, at4, at5, ix0, ix1, at_nat, memS, lookF, putFD, String.reduceEq, String.reduceBEq, if_true, if_false, Bool.false_eq_true, Option.isNone_none, true_and, and_true, and_self, get_push, isNonD, Bool.not_true, Bool.not_false, cs_from_first, cs_own, cs_others, cs_spare, cs_locks, cs_closed, mD, sl, s8, s9, s10, s11, s12, s13, ea, er, ha, hr, ne, ne', List.length_map]
    refine ⟨by decide, by decide, ?_⟩
    have FF := (F.trans (Fr.push (c := Cell.lst [D.str "paid", D.str "dropped", D.str "back"]))).trans (Fr.push (c := Cell.lst [D.str "lock", D.str "transfer"]))
    by_cases k1 : d.cl = true
    · simp only [k1, if_true]; exact q0 (by simp [mk, spend, k1]) _ FF
    · by_cases k2 : am < 1
      · simp only [k1, k2, decide_true, if_true, if_false, Bool.false_eq_true]; exact q0 (by simp [mk, spend]; omega) _ FF
      · by_cases k3 : d.own + sp < am
        · simp only [k1, k2, k3, decide_true, decide_false, if_true, if_false, Bool.false_eq_true]; exact q0 (by simp [mk, spend]; omega) _ FF
        · by_cases k4 : 8 ≤ (d.locks.length : Int)
          · simp only [k1, k2, k3, k4, decide_true, decide_false, if_true, if_false, Bool.false_eq_true]; exact q0 (by simp [mk, spend]; omega) _ FF
          · simp (maxDischargeDepth := 9) only [k1, k2, k3, k4, decide_true, decide_false, if_true, if_false, Bool.false_eq_true, W_seq, W_asg, W_set, W_V, WV_some, W_C, W_op, W_cmpT, W_isB, W_un, W_tru, W_andT, W_orT, W_notT, W_andV, W_orV, W_notV, W_ife, W_nil, W_cons, W_tup, W_lst, W_addI, W_subI, W_iaddI, W_negI, W_mulI, W_fdivI, W_modI, W_powI, W_cmpI, W_isB_bl, W_isNB, W_isN, W_isntB, W_isntN, W_eqI, W_neI, W_pass, W_brk, W_cont, W_drop, W_rt, W_rtN, W_ifS, W_gsNil, W_gsCons, W_gTup, W_aug, W_call, W_B, RtN_rt, RtN_nx, W_abs, W_intI, W_intB, W_noPart, W_part, W_sl, W_lm, W_lm0, W_iter, W_range1, W_range2, W_forE, W_revE, W_compE, W_yes, W_lenT, W_truB, W_truI, List.append_nil, List.getElem?_cons_zero, List.getElem?_cons_succ, List.set_cons_zero, List.set_cons_succ, List.getElem?_set_self, List.getElem?_set_ne, lt_set, ne_eq, Nat.reduceEqDiff, not_false_eq_true, Nat.reduceLT, Nat.zero_ne_one, Nat.one_ne_zero, Nat.lt_add_one, Nat.zero_lt_succ, startD, List.map_cons, List.map_nil, List.length_cons, List.length_nil, List.cons_append, List.nil_append, Nat.reduceAdd, Nat.reduceSub, Nat.zero_add, List.replicate_succ, List.replicate_zero, W_inSC, List.all_cons, List.all_nil, flatD, List.any_cons, List.any_nil, eqF, Bool.and_true, Bool.or_false, Bool.or_true, Bool.true_or, Bool.false_or, Bool.true_and, Bool.false_and, Option.some.injEq, D.int.injEq, exists_eq_left', exists_eq_left, W_listT, List.set_set, lt_push, len_lt, List.getElem?_append_left, W_fldC, W_setFC, W_clsC, W_methC, W_lenC, W_ixC, W_ixTO, W_isLstC, W_appC, W_listC, W_tupC, W_truC, W_slC, W_slTT, W_addTT, W_addC, W_setIC, W_getIC, W_delC, W_isDctC, W_dgetC, W_dictC, W_dict0, W_eqS, W_neS, W_eqB, W_neB, W_meth, W_make, W_setF, W_augF, W_callK, W_chain, W_chainT, W_del, W_gSub, W_augI, W_get1, W_srcC, WCell_some, WO_some, at0, at1, at2, at3, at4, at5, ix0, ix1, at_nat, memS, lookF, putFD, String.reduceEq, String.reduceBEq, if_true, if_false, Bool.false_eq_true, Option.isNone_none, true_and, and_true, and_self, get_push, isNonD, Bool.not_true, Bool.not_false, cs_from_first, cs_own, cs_others, cs_spare, cs_locks, cs_closed, sl, s8, s9, s10, s11, s12, s13, ea, er, ha, hr, ne, ne', List.length_map]
            refine ⟨by decide, by show _ < 1000000; omega, ?_⟩
            refine q1 { d with own := d.own - am, locks := d.locks ++ [⟨k, am, dl, ffP s⟩] } _ _ (by simp [mk, spend, k1]; omega) ⟨fa ?_, by simp [sl], by simp [s3], by simp [s4], by simp [s8], by simp [s9], by simp [s11], by simp [s13], by simp; omega, a, r, by simp [s10], by simp [s12], ?_, ?_, ne, la, lr⟩
            · exact Fr.trans (Fr.trans (Fr.trans .push .push) (.write (n := a) (by simp) a2)) (.write (n := r) (by simp) r2)
            · simp (maxDischargeDepth := 9) only [W_seq, W_asg, W_set, W_V, WV_some, W_C, W_op, W_cmpT, W_isB, W_un, W_tru, W_andT, W_orT, W_notT, W_andV, W_orV, W_notV, W_ife, W_nil, W_cons, W_tup, W_lst, W_addI, W_subI, W_iaddI, W_negI, W_mulI, W_fdivI, W_modI, W_powI, W_cmpI, W_isB_bl, W_isNB, W_isN, W_isntB, W_isntN, W_eqI, W_neI, W_pass, W_brk, W_cont, W_drop, W_rt, W_rtN, W_ifS, W_gsNil, W_gsCons, W_gTup, W_aug, W_call, W_B, RtN_rt, RtN_nx, W_abs, W_intI, W_intB, W_noPart, W_part, W_sl, W_lm, W_lm0, W_iter, W_range1, W_range2, W_forE, W_revE, W_compE, W_yes, W_lenT, W_truB, W_truI, List.append_nil, List.getElem?_cons_zero, List.getElem?_cons_succ, List.set_cons_zero, List.set_cons_succ, List.getElem?_set_self, List.getElem?_set_ne, lt_set, ne_eq, Nat.reduceEqDiff, not_false_eq_true, Nat.reduceLT, Nat.zero_ne_one, Nat.one_ne_zero, Nat.lt_add_one, Nat.zero_lt_succ, startD, List.map_cons, List.map_nil, List.length_cons, List.length_nil, List.cons_append, List.nil_append, Nat.reduceAdd, Nat.reduceSub, Nat.zero_add, List.replicate_succ, List.replicate_zero, W_inSC, List.all_cons, List.all_nil, flatD, List.any_cons, List.any_nil, eqF, Bool.and_true, Bool.or_false, Bool.or_true, Bool.true_or, Bool.false_or, Bool.true_and, Bool.false_and, Option.some.injEq, D.int.injEq, exists_eq_left', exists_eq_left, W_listT, List.set_set, lt_push, len_lt, List.getElem?_append_left, W_fldC, W_setFC, W_clsC, W_methC, W_lenC, W_ixC, W_ixTO, W_isLstC, W_appC, W_listC, W_tupC, W_truC, W_slC, W_slTT, W_addTT, W_addC, W_setIC, W_getIC, W_delC, W_isDctC, W_dgetC, W_dictC, W_dict0, W_eqS, W_neS, W_eqB, W_neB, W_meth, W_make, W_setF, W_augF, W_callK, W_chain, W_chainT, W_del, W_gSub, W_augI, W_get1, W_srcC, WCell_some, WO_some, at0, at1, at2, at3, at4, at5, ix0, ix1, at_nat, memS, lookF, putFD, String.reduceEq, String.reduceBEq, if_true, if_false, Bool.false_eq_true, Option.isNone_none, true_and, and_true, and_self, get_push, isNonD, Bool.not_true, Bool.not_false, cs_from_first, cs_own, cs_others, cs_spare, cs_locks, cs_closed, ha, hr, ea, er, ne, ne']
            · simp (maxDischargeDepth := 9) only [W_seq, W_asg, W_set, W_V, WV_some, W_C, W_op, W_cmpT, W_isB, W_un, W_tru, W_andT, W_orT, W_notT, W_andV, W_orV, W_notV, W_ife, W_nil, W_cons, W_tup, W_lst, W_addI, W_subI, W_iaddI, W_negI, W_mulI, W_fdivI, W_modI, W_powI, W_cmpI, W_isB_bl, W_isNB, W_isN, W_isntB, W_isntN, W_eqI, W_neI, W_pass, W_brk, W_cont, W_drop, W_rt, W_rtN, W_ifS, W_gsNil, W_gsCons, W_gTup, W_aug, W_call, W_B, RtN_rt, RtN_nx, W_abs, W_intI, W_intB, W_noPart, W_part, W_sl, W_lm, W_lm0, W_iter, W_range1, W_range2, W_forE, W_revE, W_compE, W_yes, W_lenT, W_truB, W_truI, List.append_nil, List.getElem?_cons_zero, List.getElem?_cons_succ, List.set_cons_zero, List.set_cons_succ, List.getElem?_set_self, List.getElem?_set_ne, lt_set, ne_eq, Nat.reduceEqDiff, not_false_eq_true, Nat.reduceLT, Nat.zero_ne_one, Nat.one_ne_zero, Nat.lt_add_one, Nat.zero_lt_succ, startD, List.map_cons, List.map_nil, List.length_cons, List.length_nil, List.cons_append, List.nil_append, Nat.reduceAdd, Nat.reduceSub, Nat.zero_add, List.replicate_succ, List.replicate_zero, W_inSC, List.all_cons, List.all_nil, flatD, List.any_cons, List.any_nil, eqF, Bool.and_true, Bool.or_false, Bool.or_true, Bool.true_or, Bool.false_or, Bool.true_and, Bool.false_and, Option.some.injEq, D.int.injEq, exists_eq_left', exists_eq_left, W_listT, List.set_set, lt_push, len_lt, List.getElem?_append_left, W_fldC, W_setFC, W_clsC, W_methC, W_lenC, W_ixC, W_ixTO, W_isLstC, W_appC, W_listC, W_tupC, W_truC, W_slC, W_slTT, W_addTT, W_addC, W_setIC, W_getIC, W_delC, W_isDctC, W_dgetC, W_dictC, W_dict0, W_eqS, W_neS, W_eqB, W_neB, W_meth, W_make, W_setF, W_augF, W_callK, W_chain, W_chainT, W_del, W_gSub, W_augI, W_get1, W_srcC, WCell_some, WO_some, at0, at1, at2, at3, at4, at5, ix0, ix1, at_nat, memS, lookF, putFD, String.reduceEq, String.reduceBEq, if_true, if_false, Bool.false_eq_true, Option.isNone_none, true_and, and_true, and_self, get_push, isNonD, Bool.not_true, Bool.not_false, cs_from_first, cs_own, cs_others, cs_spare, cs_locks, cs_closed, ha, hr, ea, er, ne, ne', List.map_append, lD]
  | transfer am =>
    simp (maxDischargeDepth := 9) only [W_seq, W_asg, W_set, W_V, WV_some, W_C, W_op, W_cmpT, W_isB, W_un, W_tru, W_andT, W_orT, W_notT, W_andV, W_orV, W_notV, W_ife, W_nil, W_cons, W_tup, W_lst, W_addI, W_subI, W_iaddI, W_negI, W_mulI, W_fdivI, W_modI, W_powI, W_cmpI, W_isB_bl, W_isNB, W_isN, W_isntB, W_isntN, W_eqI, W_neI, W_pass, W_brk, W_cont, W_drop, W_rt, W_rtN, W_ifS, W_gsNil, W_gsCons, W_gTup, W_aug, W_call, W_B, RtN_rt, RtN_nx, W_abs, W_intI, W_intB, W_noPart, W_part, W_sl, W_lm, W_lm0, W_iter, W_range1, W_range2, W_forE, W_revE, W_compE, W_yes, W_lenT, W_truB, W_truI, List.append_nil, List.getElem?_cons_zero, List.getElem?_cons_succ, List.set_cons_zero, List.set_cons_succ, List.getElem?_set_self, List.getElem?_set_ne, lt_set, ne_eq, Nat.reduceEqDiff, not_false_eq_true, Nat.reduceLT, Nat.zero_ne_one, Nat.one_ne_zero, Nat.lt_add_one, Nat.zero_lt_succ, startD, List.map_cons, List.map_nil, List.length_cons, List.length_nil, List.cons_append, List.nil_append, Nat.reduceAdd, Nat.reduceSub, Nat.zero_add, List.replicate_succ, List.replicate_zero, W_inSC, List.all_cons, List.all_nil, flatD, List.any_cons, List.any_nil, eqF, Bool.and_true, Bool.or_false, Bool.or_true, Bool.true_or, Bool.false_or, Bool.true_and, Bool.false_and, Option.some.injEq, D.int.injEq, exists_eq_left', exists_eq_left, W_listT, List.set_set, lt_push, len_lt, List.getElem?_append_left, W_fldC, W_setFC, W_clsC, W_methC, W_lenC, W_ixC, W_ixTO, W_isLstC, W_appC, W_listC, W_tupC, W_truC, W_slC, W_slTT, W_addTT, W_addC, W_setIC, W_getIC, W_delC, W_isDctC, W_dgetC, W_dictC, W_dict0, W_eqS, W_neS, W_eqB, W_neB, W_meth, W_make, W_setF, W_augF, W_callK, W_chain, W_chainT, W_del, W_gSub, W_augI, W_get1, W_srcC, WCell_some, WO_some, at0, at1, at2, at3, at4, at5, ix0, ix1, at_nat, memS, lookF, putFD, String.reduceEq, String.reduceBEq, if_true, if_false, Bool.false_eq_true, Option.isNone_none, true_and, and_true, and_self, get_push, isNonD, Bool.not_true, Bool.not_false, cs_from_first, cs_own, cs_others, cs_spare, cs_locks, cs_closed, mD, sl, s8, s9, s10, s11, s12, s13, ea, er, ha, hr, ne, ne', List.length_map]
    refine ⟨by decide, by decide, ?_⟩
    have FF := (F.trans (Fr.push (c := Cell.lst [D.str "paid", D.str "dropped", D.str "back"]))).trans (Fr.push (c := Cell.lst [D.str "lock", D.str "transfer"]))
    by_cases k1 : d.cl = true
    · simp only [k1, if_true]; exact q0 (by simp [mk, spend, k1]) _ FF
    · by_cases k2 : am < 1
      · simp only [k1, k2, decide_true, if_true, if_false, Bool.false_eq_true]; exact q0 (by simp [mk, spend]; omega) _ FF
      · by_cases k3 : d.own + sp < am
        · simp only [k1, k2, k3, decide_true, decide_false, if_true, if_false, Bool.false_eq_true]; exact q0 (by simp [mk, spend]; omega) _ FF
        · simp (maxDischargeDepth := 9) only [k1, k2, k3, decide_true, decide_false, if_true, if_false, Bool.false_eq_true, W_seq, W_asg, W_set, W_V, WV_some, W_C, W_op, W_cmpT, W_isB, W_un, W_tru, W_andT, W_orT, W_notT, W_andV, W_orV, W_notV, W_ife, W_nil, W_cons, W_tup, W_lst, W_addI, W_subI, W_iaddI, W_negI, W_mulI, W_fdivI, W_modI, W_powI, W_cmpI, W_isB_bl, W_isNB, W_isN, W_isntB, W_isntN, W_eqI, W_neI, W_pass, W_brk, W_cont, W_drop, W_rt, W_rtN, W_ifS, W_gsNil, W_gsCons, W_gTup, W_aug, W_call, W_B, RtN_rt, RtN_nx, W_abs, W_intI, W_intB, W_noPart, W_part, W_sl, W_lm, W_lm0, W_iter, W_range1, W_range2, W_forE, W_revE, W_compE, W_yes, W_lenT, W_truB, W_truI, List.append_nil, List.getElem?_cons_zero, List.getElem?_cons_succ, List.set_cons_zero, List.set_cons_succ, List.getElem?_set_self, List.getElem?_set_ne, lt_set, ne_eq, Nat.reduceEqDiff, not_false_eq_true, Nat.reduceLT, Nat.zero_ne_one, Nat.one_ne_zero, Nat.lt_add_one, Nat.zero_lt_succ, startD, List.map_cons, List.map_nil, List.length_cons, List.length_nil, List.cons_append, List.nil_append, Nat.reduceAdd, Nat.reduceSub, Nat.zero_add, List.replicate_succ, List.replicate_zero, W_inSC, List.all_cons, List.all_nil, flatD, List.any_cons, List.any_nil, eqF, Bool.and_true, Bool.or_false, Bool.or_true, Bool.true_or, Bool.false_or, Bool.true_and, Bool.false_and, Option.some.injEq, D.int.injEq, exists_eq_left', exists_eq_left, W_listT, List.set_set, lt_push, len_lt, List.getElem?_append_left, W_fldC, W_setFC, W_clsC, W_methC, W_lenC, W_ixC, W_ixTO, W_isLstC, W_appC, W_listC, W_tupC, W_truC, W_slC, W_slTT, W_addTT, W_addC, W_setIC, W_getIC, W_delC, W_isDctC, W_dgetC, W_dictC, W_dict0, W_eqS, W_neS, W_eqB, W_neB, W_meth, W_make, W_setF, W_augF, W_callK, W_chain, W_chainT, W_del, W_gSub, W_augI, W_get1, W_srcC, WCell_some, WO_some, at0, at1, at2, at3, at4, at5, ix0, ix1, at_nat, memS, lookF, putFD, String.reduceEq, String.reduceBEq, if_true, if_false, Bool.false_eq_true, Option.isNone_none, true_and, and_true, and_self, get_push, isNonD, Bool.not_true, Bool.not_false, cs_from_first, cs_own, cs_others, cs_spare, cs_locks, cs_closed, sl, s8, s9, s10, s11, s12, s13, ea, er, ha, hr, ne, ne', List.length_map]
          refine q1 { d with own := d.own - am, oth := d.oth + am } _ _ (by simp [mk, spend, k1]; omega) ⟨fa ?_, by simp [sl], by simp [s3], by simp [s4], by simp [s8], by simp [s9], by simp [s11], by simp [s13], sz, a, r, by simp [s10], by simp [s12], ?_, ?_, ne, la, lr⟩
          · exact Fr.trans (Fr.trans .push .push) (.write (n := a) (by simp) a2)
          · simp (maxDischargeDepth := 9) only [W_seq, W_asg, W_set, W_V, WV_some, W_C, W_op, W_cmpT, W_isB, W_un, W_tru, W_andT, W_orT, W_notT, W_andV, W_orV, W_notV, W_ife, W_nil, W_cons, W_tup, W_lst, W_addI, W_subI, W_iaddI, W_negI, W_mulI, W_fdivI, W_modI, W_powI, W_cmpI, W_isB_bl, W_isNB, W_isN, W_isntB, W_isntN, W_eqI, W_neI, W_pass, W_brk, W_cont, W_drop, W_rt, W_rtN, W_ifS, W_gsNil, W_gsCons, W_gTup, W_aug, W_call, W_B, RtN_rt, RtN_nx, W_abs, W_intI, W_intB, W_noPart, W_part, W_sl, W_lm, W_lm0, W_iter, W_range1, W_range2, W_forE, W_revE, W_compE, W_yes, W_lenT, W_truB, W_truI, List.append_nil, List.getElem?_cons_zero, List.getElem?_cons_succ, List.set_cons_zero, List.set_cons_succ, List.getElem?_set_self, List.getElem?_set_ne, lt_set, ne_eq, Nat.reduceEqDiff, not_false_eq_true, Nat.reduceLT, Nat.zero_ne_one, Nat.one_ne_zero, Nat.lt_add_one, Nat.zero_lt_succ, startD, List.map_cons, List.map_nil, List.length_cons, List.length_nil, List.cons_append, List.nil_append, Nat.reduceAdd, Nat.reduceSub, Nat.zero_add, List.replicate_succ, List.replicate_zero, W_inSC, List.all_cons, List.all_nil, flatD, List.any_cons, List.any_nil, eqF, Bool.and_true, Bool.or_false, Bool.or_true, Bool.true_or, Bool.false_or, Bool.true_and, Bool.false_and, Option.some.injEq, D.int.injEq, exists_eq_left', exists_eq_left, W_listT, List.set_set, lt_push, len_lt, List.getElem?_append_left, W_fldC, W_setFC, W_clsC, W_methC, W_lenC, W_ixC, W_ixTO, W_isLstC, W_appC, W_listC, W_tupC, W_truC, W_slC, W_slTT, W_addTT, W_addC, W_setIC, W_getIC, W_delC, W_isDctC, W_dgetC, W_dictC, W_dict0, W_eqS, W_neS, W_eqB, W_neB, W_meth, W_make, W_setF, W_augF, W_callK, W_chain, W_chainT, W_del, W_gSub, W_augI, W_get1, W_srcC, WCell_some, WO_some, at0, at1, at2, at3, at4, at5, ix0, ix1, at_nat, memS, lookF, putFD, String.reduceEq, String.reduceBEq, if_true, if_false, Bool.false_eq_true, Option.isNone_none, true_and, and_true, and_self, get_push, isNonD, Bool.not_true, Bool.not_false, cs_from_first, cs_own, cs_others, cs_spare, cs_locks, cs_closed, ha, hr, ea, er, ne, ne']
          · simp (maxDischargeDepth := 9) only [W_seq, W_asg, W_set, W_V, WV_some, W_C, W_op, W_cmpT, W_isB, W_un, W_tru, W_andT, W_orT, W_notT, W_andV, W_orV, W_notV, W_ife, W_nil, W_cons, W_tup, W_lst, W_addI, W_subI, W_iaddI, W_negI, W_mulI, W_fdivI, W_modI, W_powI, W_cmpI, W_isB_bl, W_isNB, W_isN, W_isntB, W_isntN, W_eqI, W_neI, W_pass, W_brk, W_cont, W_drop, W_rt, W_rtN, W_ifS, W_gsNil, W_gsCons, W_gTup, W_aug, W_call, W_B, RtN_rt, RtN_nx, W_abs, W_intI, W_intB, W_noPart, W_part, W_sl, W_lm, W_lm0, W_iter, W_range1, W_range2, W_forE, W_revE, W_compE, W_yes, W_lenT, W_truB, W_truI, List.append_nil, List.getElem?_cons_zero, List.getElem?_cons_succ, List.set_cons_zero, List.set_cons_succ, List.getElem?_set_self, List.getElem?_set_ne, lt_set, ne_eq, Nat.reduceEqDiff, not_false_eq_true, Nat.reduceLT, Nat.zero_ne_one, Nat.one_ne_zero, Nat.lt_add_one, Nat.zero_lt_succ, startD, List.map_cons, List.map_nil, List.length_cons, List.length_nil, List.cons_append, List.nil_append, Nat.reduceAdd, Nat.reduceSub, Nat.zero_add, List.replicate_succ, List.replicate_zero, W_inSC, List.all_cons, List.all_nil, flatD, List.any_cons, List.any_nil, eqF, Bool.and_true, Bool.or_false, Bool.or_true, Bool.true_or, Bool.false_or, Bool.true_and, Bool.false_and, Option.some.injEq, D.int.injEq, exists_eq_left', exists_eq_left, W_listT, List.set_set, lt_push, len_lt, List.getElem?_append_left, W_fldC, W_setFC, W_clsC, W_methC, W_lenC, W_ixC, W_ixTO, W_isLstC, W_appC, W_listC, W_tupC, W_truC, W_slC, W_slTT, W_addTT, W_addC, W_setIC, W_getIC, W_delC, W_isDctC, W_dgetC, W_dictC, W_dict0, W_eqS, W_neS, W_eqB, W_neB, W_meth, W_make, W_setF, W_augF, W_callK, W_chain, W_chainT, W_del, W_gSub, W_augI, W_get1, W_srcC, WCell_some, WO_some, at0, at1, at2, at3, at4, at5, ix0, ix1, at_nat, memS, lookF, putFD, String.reduceEq, String.reduceBEq, if_true, if_false, Bool.false_eq_true, Option.isNone_none, true_and, and_true, and_self, get_push, isNonD, Bool.not_true, Bool.not_false, cs_from_first, cs_own, cs_others, cs_spare, cs_locks, cs_closed, ha, hr, ea, er, ne, ne']
  | finish =>
    simp (maxDischargeDepth := 9) only [W_seq, W_asg, W_set, W_V, WV_some, W_C, W_op, W_cmpT, W_isB, W_un, W_tru, W_andT, W_orT, W_notT, W_andV, W_orV, W_notV, W_ife, W_nil, W_cons, W_tup, W_lst, W_addI, W_subI, W_iaddI, W_negI, W_mulI, W_fdivI, W_modI, W_powI, W_cmpI, W_isB_bl, W_isNB, W_isN, W_isntB, W_isntN, W_eqI, W_neI, W_pass, W_brk, W_cont, W_drop, W_rt, W_rtN, W_ifS, W_gsNil, W_gsCons, W_gTup, W_aug, W_call, W_B, RtN_rt, RtN_nx, W_abs, W_intI, W_intB, W_noPart, W_part, W_sl, W_lm, W_lm0, W_iter, W_range1, W_range2, W_forE, W_revE, W_compE, W_yes, W_lenT, W_truB, W_truI, List.append_nil, List.getElem?_cons_zero, List.getElem?_cons_succ, List.set_cons_zero, List.set_cons_succ, List.getElem?_set_self, List.getElem?_set_ne, lt_set, ne_eq, Nat.reduceEqDiff, not_false_eq_true, Nat.reduceLT, Nat.zero_ne_one, Nat.one_ne_zero, Nat.lt_add_one, Nat.zero_lt_succ, startD, List.map_cons, List.map_nil, List.length_cons, List.length_nil, List.cons_append, List.nil_append, Nat.reduceAdd, Nat.reduceSub, Nat.zero_add, List.replicate_succ, List.replicate_zero, W_inSC, List.all_cons, List.all_nil, flatD, List.any_cons, List.any_nil, eqF, Bool.and_true, Bool.or_false, Bool.or_true, Bool.true_or, Bool.false_or, Bool.true_and, Bool.false_and, Option.some.injEq, D.int.injEq, exists_eq_left', exists_eq_left, W_listT, List.set_set, lt_push, len_lt, List.getElem?_append_left, W_fldC, W_setFC, W_clsC, W_methC, W_lenC, W_ixC, W_ixTO, W_isLstC, W_appC, W_listC, W_tupC, W_truC, W_slC, W_slTT, W_addTT, W_addC, W_setIC, W_getIC, W_delC, W_isDctC, W_dgetC, W_dictC, W_dict0, W_eqS, W_neS, W_eqB, W_neB, W_meth, W_make, W_setF, W_augF, W_callK, W_chain, W_chainT, W_del, W_gSub, W_augI, W_get1, W_srcC, WCell_some, WO_some, at0, at1, at2, at3, at4, at5, ix0, ix1, at_nat, memS, lookF, putFD, String.reduceEq, String.reduceBEq, if_true, if_false, Bool.false_eq_true, Option.isNone_none, true_and, and_true, and_self, get_push, isNonD, Bool.not_true, Bool.not_false, cs_from_first, cs_own, cs_others, cs_spare, cs_locks, cs_closed, mD, sl, s8, s9, s10, s11, s12, s13, ea, er, ha, hr, ne, ne', List.length_map]
    refine ⟨by decide, by decide, ?_⟩
    have FF := (F.trans (Fr.push (c := Cell.lst [D.str "paid", D.str "dropped", D.str "back"]))).trans (Fr.push (c := Cell.lst [D.str "lock", D.str "transfer"]))
    by_cases k1 : d.cl = true
    · simp only [k1, if_true]; exact q0 (by simp [mk, k1]) _ FF
    · by_cases k2 : 0 < (d.locks.length : Int)
      · simp only [k1, k2, decide_true, if_true, if_false, Bool.false_eq_true]
        exact q0 (by simp only [mk]; rw [if_pos (.inr fun z => by rw [z] at k2; simp at k2)]) _ FF
      · simp only [k1, k2, decide_true, decide_false, if_true, if_false, Bool.false_eq_true]
        have k3 : d.locks = [] := List.length_eq_zero_iff.mp (by omega)
        refine q1 { d with cl := true } _ _ (by simp [mk, k1, k3]) ⟨fa (Fr.trans .push .push), by simp [sl], by simp [s3], by simp [s4], by simp [s8], by simp [s9], by simp [s11], by simp [sl], sz, a, r, by simp [s10], by simp [s12], ?_, ?_, ne, la, lr⟩
        · simp (maxDischargeDepth := 9) only [W_seq, W_asg, W_set, W_V, WV_some, W_C, W_op, W_cmpT, W_isB, W_un, W_tru, W_andT, W_orT, W_notT, W_andV, W_orV, W_notV, W_ife, W_nil, W_cons, W_tup, W_lst, W_addI, W_subI, W_iaddI, W_negI, W_mulI, W_fdivI, W_modI, W_powI, W_cmpI, W_isB_bl, W_isNB, W_isN, W_isntB, W_isntN, W_eqI, W_neI, W_pass, W_brk, W_cont, W_drop, W_rt, W_rtN, W_ifS, W_gsNil, W_gsCons, W_gTup, W_aug, W_call, W_B, RtN_rt, RtN_nx, W_abs, W_intI, W_intB, W_noPart, W_part, W_sl, W_lm, W_lm0, W_iter, W_range1, W_range2, W_forE, W_revE, W_compE, W_yes, W_lenT, W_truB, W_truI, List.append_nil, List.getElem?_cons_zero, List.getElem?_cons_succ, List.set_cons_zero, List.set_cons_succ, List.getElem?_set_self, List.getElem?_set_ne, lt_set, ne_eq, Nat.reduceEqDiff, not_false_eq_true, Nat.reduceLT, Nat.zero_ne_one, Nat.one_ne_zero, Nat.lt_add_one, Nat.zero_lt_succ, startD, List.map_cons, List.map_nil, List.length_cons, List.length_nil, List.cons_append, List.nil_append, Nat.reduceAdd, Nat.reduceSub, Nat.zero_add, List.replicate_succ, List.replicate_zero, W_inSC, List.all_cons, List.all_nil, flatD, List.any_cons, List.any_nil, eqF, Bool.and_true, Bool.or_false, Bool.or_true, Bool.true_or, Bool.false_or, Bool.true_and, Bool.false_and, Option.some.injEq, D.int.injEq, exists_eq_left', exists_eq_left, W_listT, List.set_set, lt_push, len_lt, List.getElem?_append_left, W_fldC, W_setFC, W_clsC, W_methC, W_lenC, W_ixC, W_ixTO, W_isLstC, W_appC, W_listC, W_tupC, W_truC, W_slC, W_slTT, W_addTT, W_addC, W_setIC, W_getIC, W_delC, W_isDctC, W_dgetC, W_dictC, W_dict0, W_eqS, W_neS, W_eqB, W_neB, W_meth, W_make, W_setF, W_augF, W_callK, W_chain, W_chainT, W_del, W_gSub, W_augI, W_get1, W_srcC, WCell_some, WO_some, at0, at1, at2, at3, at4, at5, ix0, ix1, at_nat, memS, lookF, putFD, String.reduceEq, String.reduceBEq, if_true, if_false, Bool.false_eq_true, Option.isNone_none, true_and, and_true, and_self, get_push, isNonD, Bool.not_true, Bool.not_false, cs_from_first, cs_own, cs_others, cs_spare, cs_locks, cs_closed, ha, hr, ea, er, ne, ne']
        · simp (maxDischargeDepth := 9) only [W_seq, W_asg, W_set, W_V, WV_some, W_C, W_op, W_cmpT, W_isB, W_un, W_tru, W_andT, W_orT, W_notT, W_andV, W_orV, W_notV, W_ife, W_nil, W_cons, W_tup, W_lst, W_addI, W_subI, W_iaddI, W_negI, W_mulI, W_fdivI, W_modI, W_powI, W_cmpI, W_isB_bl, W_isNB, W_isN, W_isntB, W_isntN, W_eqI, W_neI, W_pass, W_brk, W_cont, W_drop, W_rt, W_rtN, W_ifS, W_gsNil, W_gsCons, W_gTup, W_aug, W_call, W_B, RtN_rt, RtN_nx, W_abs, W_intI, W_intB, W_noPart, W_part, W_sl, W_lm, W_lm0, W_iter, W_range1, W_range2, W_forE, W_revE, W_compE, W_yes, W_lenT, W_truB, W_truI, List.append_nil, List.getElem?_cons_zero, List.getElem?_cons_succ, List.set_cons_zero, List.set_cons_succ, List.getElem?_set_self, List.getElem?_set_ne, lt_set, ne_eq, Nat.reduceEqDiff, not_false_eq_true, Nat.reduceLT, Nat.zero_ne_one, Nat.one_ne_zero, Nat.lt_add_one, Nat.zero_lt_succ, startD, List.map_cons, List.map_nil, List.length_cons, List.length_nil, List.cons_append, List.nil_append, Nat.reduceAdd, Nat.reduceSub, Nat.zero_add, List.replicate_succ, List.replicate_zero, W_inSC, List.all_cons, List.all_nil, flatD, List.any_cons, List.any_nil, eqF, Bool.and_true, Bool.or_false, Bool.or_true, Bool.true_or, Bool.false_or, Bool.true_and, Bool.false_and, Option.some.injEq, D.int.injEq, exists_eq_left', exists_eq_left, W_listT, List.set_set, lt_push, len_lt, List.getElem?_append_left, W_fldC, W_setFC, W_clsC, W_methC, W_lenC, W_ixC, W_ixTO, W_isLstC, W_appC, W_listC, W_tupC, W_truC, W_slC, W_slTT, W_addTT, W_addC, W_setIC, W_getIC, W_delC, W_isDctC, W_dgetC, W_dictC, W_dict0, W_eqS, W_neS, W_eqB, W_neB, W_meth, W_make, W_setF, W_augF, W_callK, W_chain, W_chainT, W_del, W_gSub, W_augI, W_get1, W_srcC, WCell_some, WO_some, at0, at1, at2, at3, at4, at5, ix0, ix1, at_nat, memS, lookF, putFD, String.reduceEq, String.reduceBEq, if_true, if_false, Bool.false_eq_true, Option.isNone_none, true_and, and_true, and_self, get_push, isNonD, Bool.not_true, Bool.not_false, cs_from_first, cs_own, cs_others, cs_spare, cs_locks, cs_closed, ha, hr, ea, er, ne, ne']
  | paid p sc =>
    simp (maxDischargeDepth := 9) only [W_seq, W_asg, W_set, W_V, WV_some, W_C, W_op, W_cmpT, W_isB, W_un, W_tru, W_andT, W_orT, W_notT, W_andV, W_orV, W_notV, W_ife, W_nil, W_cons, W_tup, W_lst, W_addI, W_subI, W_iaddI, W_negI, W_mulI, W_fdivI, W_modI, W_powI, W_cmpI, W_isB_bl, W_isNB, W_isN, W_isntB, W_isntN, W_eqI, W_neI, W_pass, W_brk, W_cont, W_drop, W_rt, W_rtN, W_ifS, W_gsNil, W_gsCons, W_gTup, W_aug, W_call, W_B, RtN_rt, RtN_nx, W_abs, W_intI, W_intB, W_noPart, W_part, W_sl, W_lm, W_lm0, W_iter, W_range1, W_range2, W_forE, W_revE, W_compE, W_yes, W_lenT, W_truB, W_truI, List.append_nil, List.getElem?_cons_zero, List.getElem?_cons_succ, List.set_cons_zero, List.set_cons_succ, List.getElem?_set_self, List.getElem?_set_ne, lt_set, ne_eq, Nat.reduceEqDiff, not_false_eq_true, Nat.reduceLT, Nat.zero_ne_one, Nat.one_ne_zero, Nat.lt_add_one, Nat.zero_lt_succ, startD, List.map_cons, List.map_nil, List.length_cons, List.length_nil, List.cons_append, List.nil_append, Nat.reduceAdd, Nat.reduceSub, Nat.zero_add, List.replicate_succ, List.replicate_zero, W_inSC, List.all_cons, List.all_nil, flatD, List.any_cons, List.any_nil, eqF, Bool.and_true, Bool.or_false, Bool.or_true, Bool.true_or, Bool.false_or, Bool.true_and, Bool.false_and, Option.some.injEq, D.int.injEq, exists_eq_left', exists_eq_left, W_listT, List.set_set, lt_push, len_lt, List.getElem?_append_left, W_fldC, W_setFC, W_clsC, W_methC, W_lenC, W_ixC, W_ixTO, W_isLstC, W_appC, W_listC, W_tupC, W_truC, W_slC, W_slTT, W_addTT, W_addC, W_setIC, W_getIC, W_delC, W_isDctC, W_dgetC, W_dictC, W_dict0, W_eqS, W_neS, W_eqB, W_neB, W_meth, W_make, W_setF, W_augF, W_callK, W_chain, W_chainT, W_del, W_gSub, W_augI, W_get1, W_srcC, WCell_some, WO_some, at0, at1, at2, at3, at4, at5, ix0, ix1, at_nat, memS, lookF, putFD, String.reduceEq, String.reduceBEq, if_true, if_false, Bool.false_eq_true, Option.isNone_none, true_and, and_true, and_self, get_push, isNonD, Bool.not_true, Bool.not_false, cs_from_first, cs_own, cs_others, cs_spare, cs_locks, cs_closed, mD, sl, s8, s9, s10, s11, s12, s13, ea, er, ha, hr, ne, ne', List.length_map]
    refine ⟨by decide, ?_⟩
    by_cases hp : p < d.locks.length
    · have hp' : (p : Int) < (d.locks.length : Int) := by omega
      have hl : d.locks[p]? = some d.locks[p] := List.getElem?_eq_getElem hp
      generalize d.locks[p] = l at hl
      have c1 := cut1 (xs := d.locks.map lD) (p := p) (by simpa using hp)
      have c2 := cut2 (xs := d.locks.map lD) (p := p) (by simpa using hp)
      have sz' : ((d.locks.map lD).take p).length + ((d.locks.map lD).drop (p + 1)).length ≤ LIM := by simp; show _ ≤ 1000000; omega
      simp (maxDischargeDepth := 9) only [hp', decide_true, hl, List.getElem?_map, Option.map_some, lD, W_seq, W_asg, W_set, W_V, WV_some, W_C, W_op, W_cmpT, W_isB, W_un, W_tru, W_andT, W_orT, W_notT, W_andV, W_orV, W_notV, W_ife, W_nil, W_cons, W_tup, W_lst, W_addI, W_subI, W_iaddI, W_negI, W_mulI, W_fdivI, W_modI, W_powI, W_cmpI, W_isB_bl, W_isNB, W_isN, W_isntB, W_isntN, W_eqI, W_neI, W_pass, W_brk, W_cont, W_drop, W_rt, W_rtN, W_ifS, W_gsNil, W_gsCons, W_gTup, W_aug, W_call, W_B, RtN_rt, RtN_nx, W_abs, W_intI, W_intB, W_noPart, W_part, W_sl, W_lm, W_lm0, W_iter, W_range1, W_range2, W_forE, W_revE, W_compE, W_yes, W_lenT, W_truB, W_truI, List.append_nil, List.getElem?_cons_zero, List.getElem?_cons_succ, List.set_cons_zero, List.set_cons_succ, List.getElem?_set_self, List.getElem?_set_ne, lt_set, ne_eq, Nat.reduceEqDiff, not_false_eq_true, Nat.reduceLT, Nat.zero_ne_one, Nat.one_ne_zero, Nat.lt_add_one, Nat.zero_lt_succ, startD, List.map_cons, List.map_nil, List.length_cons, List.length_nil, List.cons_append, List.nil_append, Nat.reduceAdd, Nat.reduceSub, Nat.zero_add, List.replicate_succ, List.replicate_zero, W_inSC, List.all_cons, List.all_nil, flatD, List.any_cons, List.any_nil, eqF, Bool.and_true, Bool.or_false, Bool.or_true, Bool.true_or, Bool.false_or, Bool.true_and, Bool.false_and, Option.some.injEq, D.int.injEq, exists_eq_left', exists_eq_left, W_listT, List.set_set, lt_push, len_lt, List.getElem?_append_left, W_fldC, W_setFC, W_clsC, W_methC, W_lenC, W_ixC, W_ixTO, W_isLstC, W_appC, W_listC, W_tupC, W_truC, W_slC, W_slTT, W_addTT, W_addC, W_setIC, W_getIC, W_delC, W_isDctC, W_dgetC, W_dictC, W_dict0, W_eqS, W_neS, W_eqB, W_neB, W_meth, W_make, W_setF, W_augF, W_callK, W_chain, W_chainT, W_del, W_gSub, W_augI, W_get1, W_srcC, WCell_some, WO_some, at0, at1, at2, at3, at4, at5, ix0, ix1, at_nat, memS, lookF, putFD, String.reduceEq, String.reduceBEq, if_true, if_false, Bool.false_eq_true, Option.isNone_none, true_and, and_true, and_self, get_push, isNonD, Bool.not_true, Bool.not_false, cs_from_first, cs_own, cs_others, cs_spare, cs_locks, cs_closed, sl, s8, s9, s10, s11, s12, s13, ea, er, ha, hr, ne, ne', List.length_map]
      refine ⟨by decide, ?_⟩
      cases hb : l.mine == ffP s
      · simp (maxDischargeDepth := 9) only [show (false == false) = true from rfl, W_seq, W_asg, W_set, W_V, WV_some, W_C, W_op, W_cmpT, W_isB, W_un, W_tru, W_andT, W_orT, W_notT, W_andV, W_orV, W_notV, W_ife, W_nil, W_cons, W_tup, W_lst, W_addI, W_subI, W_iaddI, W_negI, W_mulI, W_fdivI, W_modI, W_powI, W_cmpI, W_isB_bl, W_isNB, W_isN, W_isntB, W_isntN, W_eqI, W_neI, W_pass, W_brk, W_cont, W_drop, W_rt, W_rtN, W_ifS, W_gsNil, W_gsCons, W_gTup, W_aug, W_call, W_B, RtN_rt, RtN_nx, W_abs, W_intI, W_intB, W_noPart, W_part, W_sl, W_lm, W_lm0, W_iter, W_range1, W_range2, W_forE, W_revE, W_compE, W_yes, W_lenT, W_truB, W_truI, List.append_nil, List.getElem?_cons_zero, List.getElem?_cons_succ, List.set_cons_zero, List.set_cons_succ, List.getElem?_set_self, List.getElem?_set_ne, lt_set, ne_eq, Nat.reduceEqDiff, not_false_eq_true, Nat.reduceLT, Nat.zero_ne_one, Nat.one_ne_zero, Nat.lt_add_one, Nat.zero_lt_succ, startD, List.map_cons, List.map_nil, List.length_cons, List.length_nil, List.cons_append, List.nil_append, Nat.reduceAdd, Nat.reduceSub, Nat.zero_add, List.replicate_succ, List.replicate_zero, W_inSC, List.all_cons, List.all_nil, flatD, List.any_cons, List.any_nil, eqF, Bool.and_true, Bool.or_false, Bool.or_true, Bool.true_or, Bool.false_or, Bool.true_and, Bool.false_and, Option.some.injEq, D.int.injEq, exists_eq_left', exists_eq_left, W_listT, List.set_set, lt_push, len_lt, List.getElem?_append_left, W_fldC, W_setFC, W_clsC, W_methC, W_lenC, W_ixC, W_ixTO, W_isLstC, W_appC, W_listC, W_tupC, W_truC, W_slC, W_slTT, W_addTT, W_addC, W_setIC, W_getIC, W_delC, W_isDctC, W_dgetC, W_dictC, W_dict0, W_eqS, W_neS, W_eqB, W_neB, W_meth, W_make, W_setF, W_augF, W_callK, W_chain, W_chainT, W_del, W_gSub, W_augI, W_get1, W_srcC, WCell_some, WO_some, at0, at1, at2, at3, at4, at5, ix0, ix1, at_nat, memS, lookF, putFD, String.reduceEq, String.reduceBEq, if_true, if_false, Bool.false_eq_true, Option.isNone_none, true_and, and_true, and_self, get_push, isNonD, Bool.not_true, Bool.not_false, cs_from_first, cs_own, cs_others, cs_spare, cs_locks, cs_closed, sl, s8, s9, s10, s11, s12, s13, ea, er, ha, hr, ne, ne']
        have hb' : ¬ l.mine = ffP s := by simpa using hb
        refine lkey_law ?_
        simp (maxDischargeDepth := 9) only [W_seq, W_asg, W_set, W_V, WV_some, W_C, W_op, W_cmpT, W_isB, W_un, W_tru, W_andT, W_orT, W_notT, W_andV, W_orV, W_notV, W_ife, W_nil, W_cons, W_tup, W_lst, W_addI, W_subI, W_iaddI, W_negI, W_mulI, W_fdivI, W_modI, W_powI, W_cmpI, W_isB_bl, W_isNB, W_isN, W_isntB, W_isntN, W_eqI, W_neI, W_pass, W_brk, W_cont, W_drop, W_rt, W_rtN, W_ifS, W_gsNil, W_gsCons, W_gTup, W_aug, W_call, W_B, RtN_rt, RtN_nx, W_abs, W_intI, W_intB, W_noPart, W_part, W_sl, W_lm, W_lm0, W_iter, W_range1, W_range2, W_forE, W_revE, W_compE, W_yes, W_lenT, W_truB, W_truI, List.append_nil, List.getElem?_cons_zero, List.getElem?_cons_succ, List.set_cons_zero, List.set_cons_succ, List.getElem?_set_self, List.getElem?_set_ne, lt_set, ne_eq, Nat.reduceEqDiff, not_false_eq_true, Nat.reduceLT, Nat.zero_ne_one, Nat.one_ne_zero, Nat.lt_add_one, Nat.zero_lt_succ, startD, List.map_cons, List.map_nil, List.length_cons, List.length_nil, List.cons_append, List.nil_append, Nat.reduceAdd, Nat.reduceSub, Nat.zero_add, List.replicate_succ, List.replicate_zero, W_inSC, List.all_cons, List.all_nil, flatD, List.any_cons, List.any_nil, eqF, Bool.and_true, Bool.or_false, Bool.or_true, Bool.true_or, Bool.false_or, Bool.true_and, Bool.false_and, Option.some.injEq, D.int.injEq, exists_eq_left', exists_eq_left, W_listT, List.set_set, lt_push, len_lt, List.getElem?_append_left, W_fldC, W_setFC, W_clsC, W_methC, W_lenC, W_ixC, W_ixTO, W_isLstC, W_appC, W_listC, W_tupC, W_truC, W_slC, W_slTT, W_addTT, W_addC, W_setIC, W_getIC, W_delC, W_isDctC, W_dgetC, W_dictC, W_dict0, W_eqS, W_neS, W_eqB, W_neB, W_meth, W_make, W_setF, W_augF, W_callK, W_chain, W_chainT, W_del, W_gSub, W_augI, W_get1, W_srcC, WCell_some, WO_some, at0, at1, at2, at3, at4, at5, ix0, ix1, at_nat, memS, lookF, putFD, String.reduceEq, String.reduceBEq, if_true, if_false, Bool.false_eq_true, Option.isNone_none, true_and, and_true, and_self, get_push, isNonD, Bool.not_true, Bool.not_false, cs_from_first, cs_own, cs_others, cs_spare, cs_locks, cs_closed, sl, s8, s9, s10, s11, s12, s13, ea, er, ha, hr, ne, ne']
        by_cases c3 : keyP sc = l.key
        · have cb : (keyP sc == l.key) = true := by simpa using c3
          have c3' : l.key = keyP sc := c3.symm
          simp (maxDischargeDepth := 9) only [cb, W_seq, W_asg, W_set, W_V, WV_some, W_C, W_op, W_cmpT, W_isB, W_un, W_tru, W_andT, W_orT, W_notT, W_andV, W_orV, W_notV, W_ife, W_nil, W_cons, W_tup, W_lst, W_addI, W_subI, W_iaddI, W_negI, W_mulI, W_fdivI, W_modI, W_powI, W_cmpI, W_isB_bl, W_isNB, W_isN, W_isntB, W_isntN, W_eqI, W_neI, W_pass, W_brk, W_cont, W_drop, W_rt, W_rtN, W_ifS, W_gsNil, W_gsCons, W_gTup, W_aug, W_call, W_B, RtN_rt, RtN_nx, W_abs, W_intI, W_intB, W_noPart, W_part, W_sl, W_lm, W_lm0, W_iter, W_range1, W_range2, W_forE, W_revE, W_compE, W_yes, W_lenT, W_truB, W_truI, List.append_nil, List.getElem?_cons_zero, List.getElem?_cons_succ, List.set_cons_zero, List.set_cons_succ, List.getElem?_set_self, List.getElem?_set_ne, lt_set, ne_eq, Nat.reduceEqDiff, not_false_eq_true, Nat.reduceLT, Nat.zero_ne_one, Nat.one_ne_zero, Nat.lt_add_one, Nat.zero_lt_succ, startD, List.map_cons, List.map_nil, List.length_cons, List.length_nil, List.cons_append, List.nil_append, Nat.reduceAdd, Nat.reduceSub, Nat.zero_add, List.replicate_succ, List.replicate_zero, W_inSC, List.all_cons, List.all_nil, flatD, List.any_cons, List.any_nil, eqF, Bool.and_true, Bool.or_false, Bool.or_true, Bool.true_or, Bool.false_or, Bool.true_and, Bool.false_and, Option.some.injEq, D.int.injEq, exists_eq_left', exists_eq_left, W_listT, List.set_set, lt_push, len_lt, List.getElem?_append_left, W_fldC, W_setFC, W_clsC, W_methC, W_lenC, W_ixC, W_ixTO, W_isLstC, W_appC, W_listC, W_tupC, W_truC, W_slC, W_slTT, W_addTT, W_addC, W_setIC, W_getIC, W_delC, W_isDctC, W_dgetC, W_dictC, W_dict0, W_eqS, W_neS, W_eqB, W_neB, W_meth, W_make, W_setF, W_augF, W_callK, W_chain, W_chainT, W_del, W_gSub, W_augI, W_get1, W_srcC, WCell_some, WO_some, at0, at1, at2, at3, at4, at5, ix0, ix1, at_nat, memS, lookF, putFD, String.reduceEq, String.reduceBEq, if_true, if_false, Bool.false_eq_true, Option.isNone_none, true_and, and_true, and_self, get_push, isNonD, Bool.not_true, Bool.not_false, cs_from_first, cs_own, cs_others, cs_spare, cs_locks, cs_closed, sl, s8, s9, s10, s11, s12, s13, ea, er, ha, hr, ne, ne', c1, c2]
          refine ⟨sz', ?_⟩
          refine q1 { d with own := d.own + l.amt, locks := d.locks.eraseIdx p } _ _ (by simp [mk, hl, hb', c3']) ⟨fa ?_, by simp [sl], by simp [s3], by simp [s4], by simp [s8], by simp [s9], by simp [s11], by simp [s13], by simp [List.length_eraseIdx]; split <;> omega, a, _, by simp [s10], by simp (maxDischargeDepth := 9) only [W_seq, W_asg, W_set, W_V, WV_some, W_C, W_op, W_cmpT, W_isB, W_un, W_tru, W_andT, W_orT, W_notT, W_andV, W_orV, W_notV, W_ife, W_nil, W_cons, W_tup, W_lst, W_addI, W_subI, W_iaddI, W_negI, W_mulI, W_fdivI, W_modI, W_powI, W_cmpI, W_isB_bl, W_isNB, W_isN, W_isntB, W_isntN, W_eqI, W_neI, W_pass, W_brk, W_cont, W_drop, W_rt, W_rtN, W_ifS, W_gsNil, W_gsCons, W_gTup, W_aug, W_call, W_B, RtN_rt, RtN_nx, W_abs, W_intI, W_intB, W_noPart, W_part, W_sl, W_lm, W_lm0, W_iter, W_range1, W_range2, W_forE, W_revE, W_compE, W_yes, W_lenT, W_truB, W_truI, List.append_nil, List.getElem?_cons_zero, List.getElem?_cons_succ, List.set_cons_zero, List.set_cons_succ, List.getElem?_set_self, List.getElem?_set_ne, lt_set, ne_eq, Nat.reduceEqDiff, not_false_eq_true, Nat.reduceLT, Nat.zero_ne_one, Nat.one_ne_zero, Nat.lt_add_one, Nat.zero_lt_succ, startD, List.map_cons, List.map_nil, List.length_cons, List.length_nil, List.cons_append, List.nil_append, Nat.reduceAdd, Nat.reduceSub, Nat.zero_add, List.replicate_succ, List.replicate_zero, W_inSC, List.all_cons, List.all_nil, flatD, List.any_cons, List.any_nil, eqF, Bool.and_true, Bool.or_false, Bool.or_true, Bool.true_or, Bool.false_or, Bool.true_and, Bool.false_and, Option.some.injEq, D.int.injEq, exists_eq_left', exists_eq_left, W_listT, List.set_set, lt_push, len_lt, List.getElem?_append_left, W_fldC, W_setFC, W_clsC, W_methC, W_lenC, W_ixC, W_ixTO, W_isLstC, W_appC, W_listC, W_tupC, W_truC, W_slC, W_slTT, W_addTT, W_addC, W_setIC, W_getIC, W_delC, W_isDctC, W_dgetC, W_dictC, W_dict0, W_eqS, W_neS, W_eqB, W_neB, W_meth, W_make, W_setF, W_augF, W_callK, W_chain, W_chainT, W_del, W_gSub, W_augI, W_get1, W_srcC, WCell_some, WO_some, at0, at1, at2, at3, at4, at5, ix0, ix1, at_nat, memS, lookF, putFD, String.reduceEq, String.reduceBEq, if_true, if_false, Bool.false_eq_true, Option.isNone_none, true_and, and_true, and_self, get_push, isNonD, Bool.not_true, Bool.not_false, cs_from_first, cs_own, cs_others, cs_spare, cs_locks, cs_closed, sl] <;> rfl, ?_, ?_, ?_, la, ?_⟩
          · exact Fr.trans (Fr.trans (Fr.trans (Fr.trans (Fr.trans .push .push) (.write (by simp) a2)) .push) .push) .push
          · simp (maxDischargeDepth := 9) only [W_seq, W_asg, W_set, W_V, WV_some, W_C, W_op, W_cmpT, W_isB, W_un, W_tru, W_andT, W_orT, W_notT, W_andV, W_orV, W_notV, W_ife, W_nil, W_cons, W_tup, W_lst, W_addI, W_subI, W_iaddI, W_negI, W_mulI, W_fdivI, W_modI, W_powI, W_cmpI, W_isB_bl, W_isNB, W_isN, W_isntB, W_isntN, W_eqI, W_neI, W_pass, W_brk, W_cont, W_drop, W_rt, W_rtN, W_ifS, W_gsNil, W_gsCons, W_gTup, W_aug, W_call, W_B, RtN_rt, RtN_nx, W_abs, W_intI, W_intB, W_noPart, W_part, W_sl, W_lm, W_lm0, W_iter, W_range1, W_range2, W_forE, W_revE, W_compE, W_yes, W_lenT, W_truB, W_truI, List.append_nil, List.getElem?_cons_zero, List.getElem?_cons_succ, List.set_cons_zero, List.set_cons_succ, List.getElem?_set_self, List.getElem?_set_ne, lt_set, ne_eq, Nat.reduceEqDiff, not_false_eq_true, Nat.reduceLT, Nat.zero_ne_one, Nat.one_ne_zero, Nat.lt_add_one, Nat.zero_lt_succ, startD, List.map_cons, List.map_nil, List.length_cons, List.length_nil, List.cons_append, List.nil_append, Nat.reduceAdd, Nat.reduceSub, Nat.zero_add, List.replicate_succ, List.replicate_zero, W_inSC, List.all_cons, List.all_nil, flatD, List.any_cons, List.any_nil, eqF, Bool.and_true, Bool.or_false, Bool.or_true, Bool.true_or, Bool.false_or, Bool.true_and, Bool.false_and, Option.some.injEq, D.int.injEq, exists_eq_left', exists_eq_left, W_listT, List.set_set, lt_push, len_lt, List.getElem?_append_left, W_fldC, W_setFC, W_clsC, W_methC, W_lenC, W_ixC, W_ixTO, W_isLstC, W_appC, W_listC, W_tupC, W_truC, W_slC, W_slTT, W_addTT, W_addC, W_setIC, W_getIC, W_delC, W_isDctC, W_dgetC, W_dictC, W_dict0, W_eqS, W_neS, W_eqB, W_neB, W_meth, W_make, W_setF, W_augF, W_callK, W_chain, W_chainT, W_del, W_gSub, W_augI, W_get1, W_srcC, WCell_some, WO_some, at0, at1, at2, at3, at4, at5, ix0, ix1, at_nat, memS, lookF, putFD, String.reduceEq, String.reduceBEq, if_true, if_false, Bool.false_eq_true, Option.isNone_none, true_and, and_true, and_self, get_push, isNonD, Bool.not_true, Bool.not_false, cs_from_first, cs_own, cs_others, cs_spare, cs_locks, cs_closed, ha, ea]
          · rw [get_push, pop_cut, erase_map]
          · have := ha; simp; omega
          · simp; omega
        · have cb : (keyP sc == l.key) = false := by simpa using c3
          have c3' : ¬ l.key = keyP sc := fun z => c3 z.symm
          simp (maxDischargeDepth := 9) only [cb, W_seq, W_asg, W_set, W_V, WV_some, W_C, W_op, W_cmpT, W_isB, W_un, W_tru, W_andT, W_orT, W_notT, W_andV, W_orV, W_notV, W_ife, W_nil, W_cons, W_tup, W_lst, W_addI, W_subI, W_iaddI, W_negI, W_mulI, W_fdivI, W_modI, W_powI, W_cmpI, W_isB_bl, W_isNB, W_isN, W_isntB, W_isntN, W_eqI, W_neI, W_pass, W_brk, W_cont, W_drop, W_rt, W_rtN, W_ifS, W_gsNil, W_gsCons, W_gTup, W_aug, W_call, W_B, RtN_rt, RtN_nx, W_abs, W_intI, W_intB, W_noPart, W_part, W_sl, W_lm, W_lm0, W_iter, W_range1, W_range2, W_forE, W_revE, W_compE, W_yes, W_lenT, W_truB, W_truI, List.append_nil, List.getElem?_cons_zero, List.getElem?_cons_succ, List.set_cons_zero, List.set_cons_succ, List.getElem?_set_self, List.getElem?_set_ne, lt_set, ne_eq, Nat.reduceEqDiff, not_false_eq_true, Nat.reduceLT, Nat.zero_ne_one, Nat.one_ne_zero, Nat.lt_add_one, Nat.zero_lt_succ, startD, List.map_cons, List.map_nil, List.length_cons, List.length_nil, List.cons_append, List.nil_append, Nat.reduceAdd, Nat.reduceSub, Nat.zero_add, List.replicate_succ, List.replicate_zero, W_inSC, List.all_cons, List.all_nil, flatD, List.any_cons, List.any_nil, eqF, Bool.and_true, Bool.or_false, Bool.or_true, Bool.true_or, Bool.false_or, Bool.true_and, Bool.false_and, Option.some.injEq, D.int.injEq, exists_eq_left', exists_eq_left, W_listT, List.set_set, lt_push, len_lt, List.getElem?_append_left, W_fldC, W_setFC, W_clsC, W_methC, W_lenC, W_ixC, W_ixTO, W_isLstC, W_appC, W_listC, W_tupC, W_truC, W_slC, W_slTT, W_addTT, W_addC, W_setIC, W_getIC, W_delC, W_isDctC, W_dgetC, W_dictC, W_dict0, W_eqS, W_neS, W_eqB, W_neB, W_meth, W_make, W_setF, W_augF, W_callK, W_chain, W_chainT, W_del, W_gSub, W_augI, W_get1, W_srcC, WCell_some, WO_some, at0, at1, at2, at3, at4, at5, ix0, ix1, at_nat, memS, lookF, putFD, String.reduceEq, String.reduceBEq, if_true, if_false, Bool.false_eq_true, Option.isNone_none, true_and, and_true, and_self, get_push, isNonD, Bool.not_true, Bool.not_false, cs_from_first, cs_own, cs_others, cs_spare, cs_locks, cs_closed, sl, s8, s9, s10, s11, s12, s13, ea, er, ha, hr, ne, ne']
          exact q0 (by simp [mk, hl, hb', c3']) _ ((F.trans .push).trans .push)
      · simp (maxDischargeDepth := 9) only [show (true == false) = false from rfl, W_seq, W_asg, W_set, W_V, WV_some, W_C, W_op, W_cmpT, W_isB, W_un, W_tru, W_andT, W_orT, W_notT, W_andV, W_orV, W_notV, W_ife, W_nil, W_cons, W_tup, W_lst, W_addI, W_subI, W_iaddI, W_negI, W_mulI, W_fdivI, W_modI, W_powI, W_cmpI, W_isB_bl, W_isNB, W_isN, W_isntB, W_isntN, W_eqI, W_neI, W_pass, W_brk, W_cont, W_drop, W_rt, W_rtN, W_ifS, W_gsNil, W_gsCons, W_gTup, W_aug, W_call, W_B, RtN_rt, RtN_nx, W_abs, W_intI, W_intB, W_noPart, W_part, W_sl, W_lm, W_lm0, W_iter, W_range1, W_range2, W_forE, W_revE, W_compE, W_yes, W_lenT, W_truB, W_truI, List.append_nil, List.getElem?_cons_zero, List.getElem?_cons_succ, List.set_cons_zero, List.set_cons_succ, List.getElem?_set_self, List.getElem?_set_ne, lt_set, ne_eq, Nat.reduceEqDiff, not_false_eq_true, Nat.reduceLT, Nat.zero_ne_one, Nat.one_ne_zero, Nat.lt_add_one, Nat.zero_lt_succ, startD, List.map_cons, List.map_nil, List.length_cons, List.length_nil, List.cons_append, List.nil_append, Nat.reduceAdd, Nat.reduceSub, Nat.zero_add, List.replicate_succ, List.replicate_zero, W_inSC, List.all_cons, List.all_nil, flatD, List.any_cons, List.any_nil, eqF, Bool.and_true, Bool.or_false, Bool.or_true, Bool.true_or, Bool.false_or, Bool.true_and, Bool.false_and, Option.some.injEq, D.int.injEq, exists_eq_left', exists_eq_left, W_listT, List.set_set, lt_push, len_lt, List.getElem?_append_left, W_fldC, W_setFC, W_clsC, W_methC, W_lenC, W_ixC, W_ixTO, W_isLstC, W_appC, W_listC, W_tupC, W_truC, W_slC, W_slTT, W_addTT, W_addC, W_setIC, W_getIC, W_delC, W_isDctC, W_dgetC, W_dictC, W_dict0, W_eqS, W_neS, W_eqB, W_neB, W_meth, W_make, W_setF, W_augF, W_callK, W_chain, W_chainT, W_del, W_gSub, W_augI, W_get1, W_srcC, WCell_some, WO_some, at0, at1, at2, at3, at4, at5, ix0, ix1, at_nat, memS, lookF, putFD, String.reduceEq, String.reduceBEq, if_true, if_false, Bool.false_eq_true, Option.isNone_none, true_and, and_true, and_self, get_push, isNonD, Bool.not_true, Bool.not_false, cs_from_first, cs_own, cs_others, cs_spare, cs_locks, cs_closed]
        have hb' : l.mine = ffP s := by simpa using hb
        exact q0 (by simp [mk, hl, hb']) _ ((F.trans .push).trans .push)
    · have hp' : ¬ (p : Int) < (d.locks.length : Int) := by omega
      have hl : d.locks[p]? = none := List.getElem?_eq_none (by omega)
      simp (maxDischargeDepth := 9) only [hp', decide_false, W_seq, W_asg, W_set, W_V, WV_some, W_C, W_op, W_cmpT, W_isB, W_un, W_tru, W_andT, W_orT, W_notT, W_andV, W_orV, W_notV, W_ife, W_nil, W_cons, W_tup, W_lst, W_addI, W_subI, W_iaddI, W_negI, W_mulI, W_fdivI, W_modI, W_powI, W_cmpI, W_isB_bl, W_isNB, W_isN, W_isntB, W_isntN, W_eqI, W_neI, W_pass, W_brk, W_cont, W_drop, W_rt, W_rtN, W_ifS, W_gsNil, W_gsCons, W_gTup, W_aug, W_call, W_B, RtN_rt, RtN_nx, W_abs, W_intI, W_intB, W_noPart, W_part, W_sl, W_lm, W_lm0, W_iter, W_range1, W_range2, W_forE, W_revE, W_compE, W_yes, W_lenT, W_truB, W_truI, List.append_nil, List.getElem?_cons_zero, List.getElem?_cons_succ, List.set_cons_zero, List.set_cons_succ, List.getElem?_set_self, List.getElem?_set_ne, lt_set, ne_eq, Nat.reduceEqDiff, not_false_eq_true, Nat.reduceLT, Nat.zero_ne_one, Nat.one_ne_zero, Nat.lt_add_one, Nat.zero_lt_succ, startD, List.map_cons, List.map_nil, List.length_cons, List.length_nil, List.cons_append, List.nil_append, Nat.reduceAdd, Nat.reduceSub, Nat.zero_add, List.replicate_succ, List.replicate_zero, W_inSC, List.all_cons, List.all_nil, flatD, List.any_cons, List.any_nil, eqF, Bool.and_true, Bool.or_false, Bool.or_true, Bool.true_or, Bool.false_or, Bool.true_and, Bool.false_and, Option.some.injEq, D.int.injEq, exists_eq_left', exists_eq_left, W_listT, List.set_set, lt_push, len_lt, List.getElem?_append_left, W_fldC, W_setFC, W_clsC, W_methC, W_lenC, W_ixC, W_ixTO, W_isLstC, W_appC, W_listC, W_tupC, W_truC, W_slC, W_slTT, W_addTT, W_addC, W_setIC, W_getIC, W_delC, W_isDctC, W_dgetC, W_dictC, W_dict0, W_eqS, W_neS, W_eqB, W_neB, W_meth, W_make, W_setF, W_augF, W_callK, W_chain, W_chainT, W_del, W_gSub, W_augI, W_get1, W_srcC, WCell_some, WO_some, at0, at1, at2, at3, at4, at5, ix0, ix1, at_nat, memS, lookF, putFD, String.reduceEq, String.reduceBEq, if_true, if_false, Bool.false_eq_true, Option.isNone_none, true_and, and_true, and_self, get_push, isNonD, Bool.not_true, Bool.not_false, cs_from_first, cs_own, cs_others, cs_spare, cs_locks, cs_closed, sl, s8, s9, s10, s11, s12, s13, ea, er, ha, hr, ne, ne', List.length_map]
      exact ⟨by decide, q0 (by simp [mk, hl]) _ ((F.trans .push).trans .push)⟩
  | dropped p =>
    simp (maxDischargeDepth := 9) only [W_seq, W_asg, W_set, W_V, WV_some, W_C, W_op, W_cmpT, W_isB, W_un, W_tru, W_andT, W_orT, W_notT, W_andV, W_orV, W_notV, W_ife, W_nil, W_cons, W_tup, W_lst, W_addI, W_subI, W_iaddI, W_negI, W_mulI, W_fdivI, W_modI, W_powI, W_cmpI, W_isB_bl, W_isNB, W_isN, W_isntB, W_isntN, W_eqI, W_neI, W_pass, W_brk, W_cont, W_drop, W_rt, W_rtN, W_ifS, W_gsNil, W_gsCons, W_gTup, W_aug, W_call, W_B, RtN_rt, RtN_nx, W_abs, W_intI, W_intB, W_noPart, W_part, W_sl, W_lm, W_lm0, W_iter, W_range1, W_range2, W_forE, W_revE, W_compE, W_yes, W_lenT, W_truB, W_truI, List.append_nil, List.getElem?_cons_zero, List.getElem?_cons_succ, List.set_cons_zero, List.set_cons_succ, List.getElem?_set_self, List.getElem?_set_ne, lt_set, ne_eq, Nat.reduceEqDiff, not_false_eq_true, Nat.reduceLT, Nat.zero_ne_one, Nat.one_ne_zero, Nat.lt_add_one, Nat.zero_lt_succ, startD, List.map_cons, List.map_nil, List.length_cons, List.length_nil, List.cons_append, List.nil_append, Nat.reduceAdd, Nat.reduceSub, Nat.zero_add, List.replicate_succ, List.replicate_zero, W_inSC, List.all_cons, List.all_nil, flatD, List.any_cons, List.any_nil, eqF, Bool.and_true, Bool.or_false, Bool.or_true, Bool.true_or, Bool.false_or, Bool.true_and, Bool.false_and, Option.some.injEq, D.int.injEq, exists_eq_left', exists_eq_left, W_listT, List.set_set, lt_push, len_lt, List.getElem?_append_left, W_fldC, W_setFC, W_clsC, W_methC, W_lenC, W_ixC, W_ixTO, W_isLstC, W_appC, W_listC, W_tupC, W_truC, W_slC, W_slTT, W_addTT, W_addC, W_setIC, W_getIC, W_delC, W_isDctC, W_dgetC, W_dictC, W_dict0, W_eqS, W_neS, W_eqB, W_neB, W_meth, W_make, W_setF, W_augF, W_callK, W_chain, W_chainT, W_del, W_gSub, W_augI, W_get1, W_srcC, WCell_some, WO_some, at0, at1, at2, at3, at4, at5, ix0, ix1, at_nat, memS, lookF, putFD, String.reduceEq, String.reduceBEq, if_true, if_false, Bool.false_eq_true, Option.isNone_none, true_and, and_true, and_self, get_push, isNonD, Bool.not_true, Bool.not_false, cs_from_first, cs_own, cs_others, cs_spare, cs_locks, cs_closed, mD, sl, s8, s9, s10, s11, s12, s13, ea, er, ha, hr, ne, ne', List.length_map]
    refine ⟨by decide, ?_⟩
    by_cases hp : p < d.locks.length
    · have hp' : (p : Int) < (d.locks.length : Int) := by omega
      have hl : d.locks[p]? = some d.locks[p] := List.getElem?_eq_getElem hp
      generalize d.locks[p] = l at hl
      have c1 := cut1 (xs := d.locks.map lD) (p := p) (by simpa using hp)
      have c2 := cut2 (xs := d.locks.map lD) (p := p) (by simpa using hp)
      have sz' : ((d.locks.map lD).take p).length + ((d.locks.map lD).drop (p + 1)).length ≤ LIM := by simp; show _ ≤ 1000000; omega
      simp (maxDischargeDepth := 9) only [hp', decide_true, hl, List.getElem?_map, Option.map_some, lD, W_seq, W_asg, W_set, W_V, WV_some, W_C, W_op, W_cmpT, W_isB, W_un, W_tru, W_andT, W_orT, W_notT, W_andV, W_orV, W_notV, W_ife, W_nil, W_cons, W_tup, W_lst, W_addI, W_subI, W_iaddI, W_negI, W_mulI, W_fdivI, W_modI, W_powI, W_cmpI, W_isB_bl, W_isNB, W_isN, W_isntB, W_isntN, W_eqI, W_neI, W_pass, W_brk, W_cont, W_drop, W_rt, W_rtN, W_ifS, W_gsNil, W_gsCons, W_gTup, W_aug, W_call, W_B, RtN_rt, RtN_nx, W_abs, W_intI, W_intB, W_noPart, W_part, W_sl, W_lm, W_lm0, W_iter, W_range1, W_range2, W_forE, W_revE, W_compE, W_yes, W_lenT, W_truB, W_truI, List.append_nil, List.getElem?_cons_zero, List.getElem?_cons_succ, List.set_cons_zero, List.set_cons_succ, List.getElem?_set_self, List.getElem?_set_ne, lt_set, ne_eq, Nat.reduceEqDiff, not_false_eq_true, Nat.reduceLT, Nat.zero_ne_one, Nat.one_ne_zero, Nat.lt_add_one, Nat.zero_lt_succ, startD, List.map_cons, List.map_nil, List.length_cons, List.length_nil, List.cons_append, List.nil_append, Nat.reduceAdd, Nat.reduceSub, Nat.zero_add, List.replicate_succ, List.replicate_zero, W_inSC, List.all_cons, List.all_nil, flatD, List.any_cons, List.any_nil, eqF, Bool.and_true, Bool.or_false, Bool.or_true, Bool.true_or, Bool.false_or, Bool.true_and, Bool.false_and, Option.some.injEq, D.int.injEq, exists_eq_left', exists_eq_left, W_listT, List.set_set, lt_push, len_lt, List.getElem?_append_left, W_fldC, W_setFC, W_clsC, W_methC, W_lenC, W_ixC, W_ixTO, W_isLstC, W_appC, W_listC, W_tupC, W_truC, W_slC, W_slTT, W_addTT, W_addC, W_setIC, W_getIC, W_delC, W_isDctC, W_dgetC, W_dictC, W_dict0, W_eqS, W_neS, W_eqB, W_neB, W_meth, W_make, W_setF, W_augF, W_callK, W_chain, W_chainT, W_del, W_gSub, W_augI, W_get1, W_srcC, WCell_some, WO_some, at0, at1, at2, at3, at4, at5, ix0, ix1, at_nat, memS, lookF, putFD, String.reduceEq, String.reduceBEq, if_true, if_false, Bool.false_eq_true, Option.isNone_none, true_and, and_true, and_self, get_push, isNonD, Bool.not_true, Bool.not_false, cs_from_first, cs_own, cs_others, cs_spare, cs_locks, cs_closed, sl, s8, s9, s10, s11, s12, s13, ea, er, ha, hr, ne, ne', List.length_map]
      refine ⟨by decide, ?_⟩
      cases hb : l.mine == ffP s
      · simp (maxDischargeDepth := 9) only [show (false == false) = true from rfl, W_seq, W_asg, W_set, W_V, WV_some, W_C, W_op, W_cmpT, W_isB, W_un, W_tru, W_andT, W_orT, W_notT, W_andV, W_orV, W_notV, W_ife, W_nil, W_cons, W_tup, W_lst, W_addI, W_subI, W_iaddI, W_negI, W_mulI, W_fdivI, W_modI, W_powI, W_cmpI, W_isB_bl, W_isNB, W_isN, W_isntB, W_isntN, W_eqI, W_neI, W_pass, W_brk, W_cont, W_drop, W_rt, W_rtN, W_ifS, W_gsNil, W_gsCons, W_gTup, W_aug, W_call, W_B, RtN_rt, RtN_nx, W_abs, W_intI, W_intB, W_noPart, W_part, W_sl, W_lm, W_lm0, W_iter, W_range1, W_range2, W_forE, W_revE, W_compE, W_yes, W_lenT, W_truB, W_truI, List.append_nil, List.getElem?_cons_zero, List.getElem?_cons_succ, List.set_cons_zero, List.set_cons_succ, List.getElem?_set_self, List.getElem?_set_ne, lt_set, ne_eq, Nat.reduceEqDiff, not_false_eq_true, Nat.reduceLT, Nat.zero_ne_one, Nat.one_ne_zero, Nat.lt_add_one, Nat.zero_lt_succ, startD, List.map_cons, List.map_nil, List.length_cons, List.length_nil, List.cons_append, List.nil_append, Nat.reduceAdd, Nat.reduceSub, Nat.zero_add, List.replicate_succ, List.replicate_zero, W_inSC, List.all_cons, List.all_nil, flatD, List.any_cons, List.any_nil, eqF, Bool.and_true, Bool.or_false, Bool.or_true, Bool.true_or, Bool.false_or, Bool.true_and, Bool.false_and, Option.some.injEq, D.int.injEq, exists_eq_left', exists_eq_left, W_listT, List.set_set, lt_push, len_lt, List.getElem?_append_left, W_fldC, W_setFC, W_clsC, W_methC, W_lenC, W_ixC, W_ixTO, W_isLstC, W_appC, W_listC, W_tupC, W_truC, W_slC, W_slTT, W_addTT, W_addC, W_setIC, W_getIC, W_delC, W_isDctC, W_dgetC, W_dictC, W_dict0, W_eqS, W_neS, W_eqB, W_neB, W_meth, W_make, W_setF, W_augF, W_callK, W_chain, W_chainT, W_del, W_gSub, W_augI, W_get1, W_srcC, WCell_some, WO_some, at0, at1, at2, at3, at4, at5, ix0, ix1, at_nat, memS, lookF, putFD, String.reduceEq, String.reduceBEq, if_true, if_false, Bool.false_eq_true, Option.isNone_none, true_and, and_true, and_self, get_push, isNonD, Bool.not_true, Bool.not_false, cs_from_first, cs_own, cs_others, cs_spare, cs_locks, cs_closed, sl, s8, s9, s10, s11, s12, s13, ea, er, ha, hr, ne, ne', c1, c2]
        have hb' : ¬ l.mine = ffP s := by simpa using hb
        refine ⟨sz', ?_⟩
        refine q1 { d with oth := d.oth + l.amt, locks := d.locks.eraseIdx p } _ _ (by simp [mk, hl, hb']) ⟨fa ?_, by simp [sl], by simp [s3], by simp [s4], by simp [s8], by simp [s9], by simp [s11], by simp [s13], by simp [List.length_eraseIdx]; split <;> omega, a, _, by simp [s10], by simp (maxDischargeDepth := 9) only [W_seq, W_asg, W_set, W_V, WV_some, W_C, W_op, W_cmpT, W_isB, W_un, W_tru, W_andT, W_orT, W_notT, W_andV, W_orV, W_notV, W_ife, W_nil, W_cons, W_tup, W_lst, W_addI, W_subI, W_iaddI, W_negI, W_mulI, W_fdivI, W_modI, W_powI, W_cmpI, W_isB_bl, W_isNB, W_isN, W_isntB, W_isntN, W_eqI, W_neI, W_pass, W_brk, W_cont, W_drop, W_rt, W_rtN, W_ifS, W_gsNil, W_gsCons, W_gTup, W_aug, W_call, W_B, RtN_rt, RtN_nx, W_abs, W_intI, W_intB, W_noPart, W_part, W_sl, W_lm, W_lm0, W_iter, W_range1, W_range2, W_forE, W_revE, W_compE, W_yes, W_lenT, W_truB, W_truI, List.append_nil, List.getElem?_cons_zero, List.getElem?_cons_succ, List.set_cons_zero, List.set_cons_succ, List.getElem?_set_self, List.getElem?_set_ne, lt_set, ne_eq, Nat.reduceEqDiff, not_false_eq_true, Nat.reduceLT, Nat.zero_ne_one, Nat.one_ne_zero, Nat.lt_add_one, Nat.zero_lt_succ, startD, List.map_cons, List.map_nil, List.length_cons, List.length_nil, List.cons_append, List.nil_append, Nat.reduceAdd, Nat.reduceSub, Nat.zero_add, List.replicate_succ, List.replicate_zero, W_inSC, List.all_cons, List.all_nil, flatD, List.any_cons, List.any_nil, eqF, Bool.and_true, Bool.or_false, Bool.or_true, Bool.true_or, Bool.false_or, Bool.true_and, Bool.false_and, Option.some.injEq, D.int.injEq, exists_eq_left', exists_eq_left, W_listT, List.set_set, lt_push, len_lt, List.getElem?_append_left, W_fldC, W_setFC, W_clsC, W_methC, W_lenC, W_ixC, W_ixTO, W_isLstC, W_appC, W_listC, W_tupC, W_truC, W_slC, W_slTT, W_addTT, W_addC, W_setIC, W_getIC, W_delC, W_isDctC, W_dgetC, W_dictC, W_dict0, W_eqS, W_neS, W_eqB, W_neB, W_meth, W_make, W_setF, W_augF, W_callK, W_chain, W_chainT, W_del, W_gSub, W_augI, W_get1, W_srcC, WCell_some, WO_some, at0, at1, at2, at3, at4, at5, ix0, ix1, at_nat, memS, lookF, putFD, String.reduceEq, String.reduceBEq, if_true, if_false, Bool.false_eq_true, Option.isNone_none, true_and, and_true, and_self, get_push, isNonD, Bool.not_true, Bool.not_false, cs_from_first, cs_own, cs_others, cs_spare, cs_locks, cs_closed, sl] <;> rfl, ?_, ?_, ?_, la, ?_⟩
        · exact Fr.trans (Fr.trans (Fr.trans (Fr.trans (Fr.trans .push .push) (.write (by simp) a2)) .push) .push) .push
        · simp (maxDischargeDepth := 9) only [W_seq, W_asg, W_set, W_V, WV_some, W_C, W_op, W_cmpT, W_isB, W_un, W_tru, W_andT, W_orT, W_notT, W_andV, W_orV, W_notV, W_ife, W_nil, W_cons, W_tup, W_lst, W_addI, W_subI, W_iaddI, W_negI, W_mulI, W_fdivI, W_modI, W_powI, W_cmpI, W_isB_bl, W_isNB, W_isN, W_isntB, W_isntN, W_eqI, W_neI, W_pass, W_brk, W_cont, W_drop, W_rt, W_rtN, W_ifS, W_gsNil, W_gsCons, W_gTup, W_aug, W_call, W_B, RtN_rt, RtN_nx, W_abs, W_intI, W_intB, W_noPart, W_part, W_sl, W_lm, W_lm0, W_iter, W_range1, W_range2, W_forE, W_revE, W_compE, W_yes, W_lenT, W_truB, W_truI, List.append_nil, List.getElem?_cons_zero, List.getElem?_cons_succ, List.set_cons_zero, List.set_cons_succ, List.getElem?_set_self, List.getElem?_set_ne, lt_set, ne_eq, Nat.reduceEqDiff, not_false_eq_true, Nat.reduceLT, Nat.zero_ne_one, Nat.one_ne_zero, Nat.lt_add_one, Nat.zero_lt_succ, startD, List.map_cons, List.map_nil, List.length_cons, List.length_nil, List.cons_append, List.nil_append, Nat.reduceAdd, Nat.reduceSub, Nat.zero_add, List.replicate_succ, List.replicate_zero, W_inSC, List.all_cons, List.all_nil, flatD, List.any_cons, List.any_nil, eqF, Bool.and_true, Bool.or_false, Bool.or_true, Bool.true_or, Bool.false_or, Bool.true_and, Bool.false_and, Option.some.injEq, D.int.injEq, exists_eq_left', exists_eq_left, W_listT, List.set_set, lt_push, len_lt, List.getElem?_append_left, W_fldC, W_setFC, W_clsC, W_methC, W_lenC, W_ixC, W_ixTO, W_isLstC, W_appC, W_listC, W_tupC, W_truC, W_slC, W_slTT, W_addTT, W_addC, W_setIC, W_getIC, W_delC, W_isDctC, W_dgetC, W_dictC, W_dict0, W_eqS, W_neS, W_eqB, W_neB, W_meth, W_make, W_setF, W_augF, W_callK, W_chain, W_chainT, W_del, W_gSub, W_augI, W_get1, W_srcC, WCell_some, WO_some, at0, at1, at2, at3, at4, at5, ix0, ix1, at_nat, memS, lookF, putFD, String.reduceEq, String.reduceBEq, if_true, if_false, Bool.false_eq_true, Option.isNone_none, true_and, and_true, and_self, get_push, isNonD, Bool.not_true, Bool.not_false, cs_from_first, cs_own, cs_others, cs_spare, cs_locks, cs_closed, ha, ea]
        · rw [get_push, pop_cut, erase_map]
        · have := ha; simp; omega
        · simp; omega
      · simp (maxDischargeDepth := 9) only [show (true == false) = false from rfl, W_seq, W_asg, W_set, W_V, WV_some, W_C, W_op, W_cmpT, W_isB, W_un, W_tru, W_andT, W_orT, W_notT, W_andV, W_orV, W_notV, W_ife, W_nil, W_cons, W_tup, W_lst, W_addI, W_subI, W_iaddI, W_negI, W_mulI, W_fdivI, W_modI, W_powI, W_cmpI, W_isB_bl, W_isNB, W_isN, W_isntB, W_isntN, W_eqI, W_neI, W_pass, W_brk, W_cont, W_drop, W_rt, W_rtN, W_ifS, W_gsNil, W_gsCons, W_gTup, W_aug, W_call, W_B, RtN_rt, RtN_nx, W_abs, W_intI, W_intB, W_noPart, W_part, W_sl, W_lm, W_lm0, W_iter, W_range1, W_range2, W_forE, W_revE, W_compE, W_yes, W_lenT, W_truB, W_truI, List.append_nil, List.getElem?_cons_zero, List.getElem?_cons_succ, List.set_cons_zero, List.set_cons_succ, List.getElem?_set_self, List.getElem?_set_ne, lt_set, ne_eq, Nat.reduceEqDiff, not_false_eq_true, Nat.reduceLT, Nat.zero_ne_one, Nat.one_ne_zero, Nat.lt_add_one, Nat.zero_lt_succ, startD, List.map_cons, List.map_nil, List.length_cons, List.length_nil, List.cons_append, List.nil_append, Nat.reduceAdd, Nat.reduceSub, Nat.zero_add, List.replicate_succ, List.replicate_zero, W_inSC, List.all_cons, List.all_nil, flatD, List.any_cons, List.any_nil, eqF, Bool.and_true, Bool.or_false, Bool.or_true, Bool.true_or, Bool.false_or, Bool.true_and, Bool.false_and, Option.some.injEq, D.int.injEq, exists_eq_left', exists_eq_left, W_listT, List.set_set, lt_push, len_lt, List.getElem?_append_left, W_fldC, W_setFC, W_clsC, W_methC, W_lenC, W_ixC, W_ixTO, W_isLstC, W_appC, W_listC, W_tupC, W_truC, W_slC, W_slTT, W_addTT, W_addC, W_setIC, W_getIC, W_delC, W_isDctC, W_dgetC, W_dictC, W_dict0, W_eqS, W_neS, W_eqB, W_neB, W_meth, W_make, W_setF, W_augF, W_callK, W_chain, W_chainT, W_del, W_gSub, W_augI, W_get1, W_srcC, WCell_some, WO_some, at0, at1, at2, at3, at4, at5, ix0, ix1, at_nat, memS, lookF, putFD, String.reduceEq, String.reduceBEq, if_true, if_false, Bool.false_eq_true, Option.isNone_none, true_and, and_true, and_self, get_push, isNonD, Bool.not_true, Bool.not_false, cs_from_first, cs_own, cs_others, cs_spare, cs_locks, cs_closed]
        have hb' : l.mine = ffP s := by simpa using hb
        exact q0 (by simp [mk, hl, hb']) _ ((F.trans .push).trans .push)
    · have hp' : ¬ (p : Int) < (d.locks.length : Int) := by omega
      have hl : d.locks[p]? = none := List.getElem?_eq_none (by omega)
      simp (maxDischargeDepth := 9) only [hp', decide_false, W_seq, W_asg, W_set, W_V, WV_some, W_C, W_op, W_cmpT, W_isB, W_un, W_tru, W_andT, W_orT, W_notT, W_andV, W_orV, W_notV, W_ife, W_nil, W_cons, W_tup, W_lst, W_addI, W_subI, W_iaddI, W_negI, W_mulI, W_fdivI, W_modI, W_powI, W_cmpI, W_isB_bl, W_isNB, W_isN, W_isntB, W_isntN, W_eqI, W_neI, W_pass, W_brk, W_cont, W_drop, W_rt, W_rtN, W_ifS, W_gsNil, W_gsCons, W_gTup, W_aug, W_call, W_B, RtN_rt, RtN_nx, W_abs, W_intI, W_intB, W_noPart, W_part, W_sl, W_lm, W_lm0, W_iter, W_range1, W_range2, W_forE, W_revE, W_compE, W_yes, W_lenT, W_truB, W_truI, List.append_nil, List.getElem?_cons_zero, List.getElem?_cons_succ, List.set_cons_zero, List.set_cons_succ, List.getElem?_set_self, List.getElem?_set_ne, lt_set, ne_eq, Nat.reduceEqDiff, not_false_eq_true, Nat.reduceLT, Nat.zero_ne_one, Nat.one_ne_zero, Nat.lt_add_one, Nat.zero_lt_succ, startD, List.map_cons, List.map_nil, List.length_cons, List.length_nil, List.cons_append, List.nil_append, Nat.reduceAdd, Nat.reduceSub, Nat.zero_add, List.replicate_succ, List.replicate_zero, W_inSC, List.all_cons, List.all_nil, flatD, List.any_cons, List.any_nil, eqF, Bool.and_true, Bool.or_false, Bool.or_true, Bool.true_or, Bool.false_or, Bool.true_and, Bool.false_and, Option.some.injEq, D.int.injEq, exists_eq_left', exists_eq_left, W_listT, List.set_set, lt_push, len_lt, List.getElem?_append_left, W_fldC, W_setFC, W_clsC, W_methC, W_lenC, W_ixC, W_ixTO, W_isLstC, W_appC, W_listC, W_tupC, W_truC, W_slC, W_slTT, W_addTT, W_addC, W_setIC, W_getIC, W_delC, W_isDctC, W_dgetC, W_dictC, W_dict0, W_eqS, W_neS, W_eqB, W_neB, W_meth, W_make, W_setF, W_augF, W_callK, W_chain, W_chainT, W_del, W_gSub, W_augI, W_get1, W_srcC, WCell_some, WO_some, at0, at1, at2, at3, at4, at5, ix0, ix1, at_nat, memS, lookF, putFD, String.reduceEq, String.reduceBEq, if_true, if_false, Bool.false_eq_true, Option.isNone_none, true_and, and_true, and_self, get_push, isNonD, Bool.not_true, Bool.not_false, cs_from_first, cs_own, cs_others, cs_spare, cs_locks, cs_closed, sl, s8, s9, s10, s11, s12, s13, ea, er, ha, hr, ne, ne', List.length_map]
      exact ⟨by decide, q0 (by simp [mk, hl]) _ ((F.trans .push).trans .push)⟩
  | back p =>
    simp (maxDischargeDepth := 9) only [W_seq, W_asg, W_set, W_V, WV_some, W_C, W_op, W_cmpT, W_isB, W_un, W_tru, W_andT, W_orT, W_notT, W_andV, W_orV, W_notV, W_ife, W_nil, W_cons, W_tup, W_lst, W_addI, W_subI, W_iaddI, W_negI, W_mulI, W_fdivI, W_modI, W_powI, W_cmpI, W_isB_bl, W_isNB, W_isN, W_isntB, W_isntN, W_eqI, W_neI, W_pass, W_brk, W_cont, W_drop, W_rt, W_rtN, W_ifS, W_gsNil, W_gsCons, W_gTup, W_aug, W_call, W_B, RtN_rt, RtN_nx, W_abs, W_intI, W_intB, W_noPart, W_part, W_sl, W_lm, W_lm0, W_iter, W_range1, W_range2, W_forE, W_revE, W_compE, W_yes, W_lenT, W_truB, W_truI, List.append_nil, List.getElem?_cons_zero, List.getElem?_cons_succ, List.set_cons_zero, List.set_cons_succ, List.getElem?_set_self, List.getElem?_set_ne, lt_set, ne_eq, Nat.reduceEqDiff, not_false_eq_true, Nat.reduceLT, Nat.zero_ne_one, Nat.one_ne_zero, Nat.lt_add_one, Nat.zero_lt_succ, startD, List.map_cons, List.map_nil, List.length_cons, List.length_nil, List.cons_append, List.nil_append, Nat.reduceAdd, Nat.reduceSub, Nat.zero_add, List.replicate_succ, List.replicate_zero, W_inSC, List.all_cons, List.all_nil, flatD, List.any_cons, List.any_nil, eqF, Bool.and_true, Bool.or_false, Bool.or_true, Bool.true_or, Bool.false_or, Bool.true_and, Bool.false_and, Option.some.injEq, D.int.injEq, exists_eq_left', exists_eq_left, W_listT, List.set_set, lt_push, len_lt, List.getElem?_append_left, W_fldC, W_setFC, W_clsC, W_methC, W_lenC, W_ixC, W_ixTO, W_isLstC, W_appC, W_listC, W_tupC, W_truC, W_slC, W_slTT, W_addTT, W_addC, W_setIC, W_getIC, W_delC, W_isDctC, W_dgetC, W_dictC, W_dict0, W_eqS, W_neS, W_eqB, W_neB, W_meth, W_make, W_setF, W_augF, W_callK, W_chain, W_chainT, W_del, W_gSub, W_augI, W_get1, W_srcC, WCell_some, WO_some, at0, at1, at2, at3, at4, at5, ix0, ix1, at_nat, memS, lookF, putFD, String.reduceEq, String.reduceBEq, if_true, if_false, Bool.false_eq_true, Option.isNone_none, true_and, and_true, and_self, get_push, isNonD, Bool.not_true, Bool.not_false, cs_from_first, cs_own, cs_others, cs_spare, cs_locks, cs_closed, mD, sl, s8, s9, s10, s11, s12, s13, ea, er, ha, hr, ne, ne', List.length_map]
    refine ⟨by decide, ?_⟩
    by_cases hp : p < d.locks.length
    · have hp' : (p : Int) < (d.locks.length : Int) := by omega
      have hl : d.locks[p]? = some d.locks[p] := List.getElem?_eq_getElem hp
      generalize d.locks[p] = l at hl
      have c1 := cut1 (xs := d.locks.map lD) (p := p) (by simpa using hp)
      have c2 := cut2 (xs := d.locks.map lD) (p := p) (by simpa using hp)
      have sz' : ((d.locks.map lD).take p).length + ((d.locks.map lD).drop (p + 1)).length ≤ LIM := by simp; show _ ≤ 1000000; omega
      simp (maxDischargeDepth := 9) only [hp', decide_true, hl, List.getElem?_map, Option.map_some, lD, W_seq, W_asg, W_set, W_V, WV_some, W_C, W_op, W_cmpT, W_isB, W_un, W_tru, W_andT, W_orT, W_notT, W_andV, W_orV, W_notV, W_ife, W_nil, W_cons, W_tup, W_lst, W_addI, W_subI, W_iaddI, W_negI, W_mulI, W_fdivI, W_modI, W_powI, W_cmpI, W_isB_bl, W_isNB, W_isN, W_isntB, W_isntN, W_eqI, W_neI, W_pass, W_brk, W_cont, W_drop, W_rt, W_rtN, W_ifS, W_gsNil, W_gsCons, W_gTup, W_aug, W_call, W_B, RtN_rt, RtN_nx, W_abs, W_intI, W_intB, W_noPart, W_part, W_sl, W_lm, W_lm0, W_iter, W_range1, W_range2, W_forE, W_revE, W_compE, W_yes, W_lenT, W_truB, W_truI, List.append_nil, List.getElem?_cons_zero, List.getElem?_cons_succ, List.set_cons_zero, List.set_cons_succ, List.getElem?_set_self, List.getElem?_set_ne, lt_set, ne_eq, Nat.reduceEqDiff, not_false_eq_true, Nat.reduceLT, Nat.zero_ne_one, Nat.one_ne_zero, Nat.lt_add_one, Nat.zero_lt_succ, startD, List.map_cons, List.map_nil, List.length_cons, List.length_nil, List.cons_append, List.nil_append, Nat.reduceAdd, Nat.reduceSub, Nat.zero_add, List.replicate_succ, List.replicate_zero, W_inSC, List.all_cons, List.all_nil, flatD, List.any_cons, List.any_nil, eqF, Bool.and_true, Bool.or_false, Bool.or_true, Bool.true_or, Bool.false_or, Bool.true_and, Bool.false_and, Option.some.injEq, D.int.injEq, exists_eq_left', exists_eq_left, W_listT, List.set_set, lt_push, len_lt, List.getElem?_append_left, W_fldC, W_setFC, W_clsC, W_methC, W_lenC, W_ixC, W_ixTO, W_isLstC, W_appC, W_listC, W_tupC, W_truC, W_slC, W_slTT, W_addTT, W_addC, W_setIC, W_getIC, W_delC, W_isDctC, W_dgetC, W_dictC, W_dict0, W_eqS, W_neS, W_eqB, W_neB, W_meth, W_make, W_setF, W_augF, W_callK, W_chain, W_chainT, W_del, W_gSub, W_augI, W_get1, W_srcC, WCell_some, WO_some, at0, at1, at2, at3, at4, at5, ix0, ix1, at_nat, memS, lookF, putFD, String.reduceEq, String.reduceBEq, if_true, if_false, Bool.false_eq_true, Option.isNone_none, true_and, and_true, and_self, get_push, isNonD, Bool.not_true, Bool.not_false, cs_from_first, cs_own, cs_others, cs_spare, cs_locks, cs_closed, sl, s8, s9, s10, s11, s12, s13, ea, er, ha, hr, ne, ne', List.length_map]
      refine ⟨by decide, ?_⟩
      cases hb : l.mine == ffP s
      · simp (maxDischargeDepth := 9) only [show (false == true) = false from rfl, W_seq, W_asg, W_set, W_V, WV_some, W_C, W_op, W_cmpT, W_isB, W_un, W_tru, W_andT, W_orT, W_notT, W_andV, W_orV, W_notV, W_ife, W_nil, W_cons, W_tup, W_lst, W_addI, W_subI, W_iaddI, W_negI, W_mulI, W_fdivI, W_modI, W_powI, W_cmpI, W_isB_bl, W_isNB, W_isN, W_isntB, W_isntN, W_eqI, W_neI, W_pass, W_brk, W_cont, W_drop, W_rt, W_rtN, W_ifS, W_gsNil, W_gsCons, W_gTup, W_aug, W_call, W_B, RtN_rt, RtN_nx, W_abs, W_intI, W_intB, W_noPart, W_part, W_sl, W_lm, W_lm0, W_iter, W_range1, W_range2, W_forE, W_revE, W_compE, W_yes, W_lenT, W_truB, W_truI, List.append_nil, List.getElem?_cons_zero, List.getElem?_cons_succ, List.set_cons_zero, List.set_cons_succ, List.getElem?_set_self, List.getElem?_set_ne, lt_set, ne_eq, Nat.reduceEqDiff, not_false_eq_true, Nat.reduceLT, Nat.zero_ne_one, Nat.one_ne_zero, Nat.lt_add_one, Nat.zero_lt_succ, startD, List.map_cons, List.map_nil, List.length_cons, List.length_nil, List.cons_append, List.nil_append, Nat.reduceAdd, Nat.reduceSub, Nat.zero_add, List.replicate_succ, List.replicate_zero, W_inSC, List.all_cons, List.all_nil, flatD, List.any_cons, List.any_nil, eqF, Bool.and_true, Bool.or_false, Bool.or_true, Bool.true_or, Bool.false_or, Bool.true_and, Bool.false_and, Option.some.injEq, D.int.injEq, exists_eq_left', exists_eq_left, W_listT, List.set_set, lt_push, len_lt, List.getElem?_append_left, W_fldC, W_setFC, W_clsC, W_methC, W_lenC, W_ixC, W_ixTO, W_isLstC, W_appC, W_listC, W_tupC, W_truC, W_slC, W_slTT, W_addTT, W_addC, W_setIC, W_getIC, W_delC, W_isDctC, W_dgetC, W_dictC, W_dict0, W_eqS, W_neS, W_eqB, W_neB, W_meth, W_make, W_setF, W_augF, W_callK, W_chain, W_chainT, W_del, W_gSub, W_augI, W_get1, W_srcC, WCell_some, WO_some, at0, at1, at2, at3, at4, at5, ix0, ix1, at_nat, memS, lookF, putFD, String.reduceEq, String.reduceBEq, if_true, if_false, Bool.false_eq_true, Option.isNone_none, true_and, and_true, and_self, get_push, isNonD, Bool.not_true, Bool.not_false, cs_from_first, cs_own, cs_others, cs_spare, cs_locks, cs_closed]
        have hb' : ¬ l.mine = ffP s := by simpa using hb
        exact q0 (by simp [mk, hl, hb']) _ ((F.trans .push).trans .push)
      · simp (maxDischargeDepth := 9) only [show (true == true) = true from rfl, W_seq, W_asg, W_set, W_V, WV_some, W_C, W_op, W_cmpT, W_isB, W_un, W_tru, W_andT, W_orT, W_notT, W_andV, W_orV, W_notV, W_ife, W_nil, W_cons, W_tup, W_lst, W_addI, W_subI, W_iaddI, W_negI, W_mulI, W_fdivI, W_modI, W_powI, W_cmpI, W_isB_bl, W_isNB, W_isN, W_isntB, W_isntN, W_eqI, W_neI, W_pass, W_brk, W_cont, W_drop, W_rt, W_rtN, W_ifS, W_gsNil, W_gsCons, W_gTup, W_aug, W_call, W_B, RtN_rt, RtN_nx, W_abs, W_intI, W_intB, W_noPart, W_part, W_sl, W_lm, W_lm0, W_iter, W_range1, W_range2, W_forE, W_revE, W_compE, W_yes, W_lenT, W_truB, W_truI, List.append_nil, List.getElem?_cons_zero, List.getElem?_cons_succ, List.set_cons_zero, List.set_cons_succ, List.getElem?_set_self, List.getElem?_set_ne, lt_set, ne_eq, Nat.reduceEqDiff, not_false_eq_true, Nat.reduceLT, Nat.zero_ne_one, Nat.one_ne_zero, Nat.lt_add_one, Nat.zero_lt_succ, startD, List.map_cons, List.map_nil, List.length_cons, List.length_nil, List.cons_append, List.nil_append, Nat.reduceAdd, Nat.reduceSub, Nat.zero_add, List.replicate_succ, List.replicate_zero, W_inSC, List.all_cons, List.all_nil, flatD, List.any_cons, List.any_nil, eqF, Bool.and_true, Bool.or_false, Bool.or_true, Bool.true_or, Bool.false_or, Bool.true_and, Bool.false_and, Option.some.injEq, D.int.injEq, exists_eq_left', exists_eq_left, W_listT, List.set_set, lt_push, len_lt, List.getElem?_append_left, W_fldC, W_setFC, W_clsC, W_methC, W_lenC, W_ixC, W_ixTO, W_isLstC, W_appC, W_listC, W_tupC, W_truC, W_slC, W_slTT, W_addTT, W_addC, W_setIC, W_getIC, W_delC, W_isDctC, W_dgetC, W_dictC, W_dict0, W_eqS, W_neS, W_eqB, W_neB, W_meth, W_make, W_setF, W_augF, W_callK, W_chain, W_chainT, W_del, W_gSub, W_augI, W_get1, W_srcC, WCell_some, WO_some, at0, at1, at2, at3, at4, at5, ix0, ix1, at_nat, memS, lookF, putFD, String.reduceEq, String.reduceBEq, if_true, if_false, Bool.false_eq_true, Option.isNone_none, true_and, and_true, and_self, get_push, isNonD, Bool.not_true, Bool.not_false, cs_from_first, cs_own, cs_others, cs_spare, cs_locks, cs_closed, sl, s8, s9, s10, s11, s12, s13, ea, er, ha, hr, ne, ne', c1, c2]
        have hb' : l.mine = ffP s := by simpa using hb
        refine ⟨sz', ?_⟩
        refine q1 { d with own := d.own + l.amt, locks := d.locks.eraseIdx p } _ _ (by simp [mk, hl, hb']) ⟨fa ?_, by simp [sl], by simp [s3], by simp [s4], by simp [s8], by simp [s9], by simp [s11], by simp [s13], by simp [List.length_eraseIdx]; split <;> omega, a, _, by simp [s10], by simp (maxDischargeDepth := 9) only [W_seq, W_asg, W_set, W_V, WV_some, W_C, W_op, W_cmpT, W_isB, W_un, W_tru, W_andT, W_orT, W_notT, W_andV, W_orV, W_notV, W_ife, W_nil, W_cons, W_tup, W_lst, W_addI, W_subI, W_iaddI, W_negI, W_mulI, W_fdivI, W_modI, W_powI, W_cmpI, W_isB_bl, W_isNB, W_isN, W_isntB, W_isntN, W_eqI, W_neI, W_pass, W_brk, W_cont, W_drop, W_rt, W_rtN, W_ifS, W_gsNil, W_gsCons, W_gTup, W_aug, W_call, W_B, RtN_rt, RtN_nx, W_abs, W_intI, W_intB, W_noPart, W_part, W_sl, W_lm, W_lm0, W_iter, W_range1, W_range2, W_forE, W_revE, W_compE, W_yes, W_lenT, W_truB, W_truI, List.append_nil, List.getElem?_cons_zero, List.getElem?_cons_succ, List.set_cons_zero, List.set_cons_succ, List.getElem?_set_self, List.getElem?_set_ne, lt_set, ne_eq, Nat.reduceEqDiff, not_false_eq_true, Nat.reduceLT, Nat.zero_ne_one, Nat.one_ne_zero, Nat.lt_add_one, Nat.zero_lt_succ, startD, List.map_cons, List.map_nil, List.length_cons, List.length_nil, List.cons_append, List.nil_append, Nat.reduceAdd, Nat.reduceSub, Nat.zero_add, List.replicate_succ, List.replicate_zero, W_inSC, List.all_cons, List.all_nil, flatD, List.any_cons, List.any_nil, eqF, Bool.and_true, Bool.or_false, Bool.or_true, Bool.true_or, Bool.false_or, Bool.true_and, Bool.false_and, Option.some.injEq, D.int.injEq, exists_eq_left', exists_eq_left, W_listT, List.set_set, lt_push, len_lt, List.getElem?_append_left, W_fldC, W_setFC, W_clsC, W_methC, W_lenC, W_ixC, W_ixTO, W_isLstC, W_appC, W_listC, W_tupC, W_truC, W_slC, W_slTT, W_addTT, W_addC, W_setIC, W_getIC, W_delC, W_isDctC, W_dgetC, W_dictC, W_dict0, W_eqS, W_neS, W_eqB, W_neB, W_meth, W_make, W_setF, W_augF, W_callK, W_chain, W_chainT, W_del, W_gSub, W_augI, W_get1, W_srcC, WCell_some, WO_some, at0, at1, at2, at3, at4, at5, ix0, ix1, at_nat, memS, lookF, putFD, String.reduceEq, String.reduceBEq, if_true, if_false, Bool.false_eq_true, Option.isNone_none, true_and, and_true, and_self, get_push, isNonD, Bool.not_true, Bool.not_false, cs_from_first, cs_own, cs_others, cs_spare, cs_locks, cs_closed, sl] <;> rfl, ?_, ?_, ?_, la, ?_⟩
        · exact Fr.trans (Fr.trans (Fr.trans (Fr.trans (Fr.trans .push .push) (.write (by simp) a2)) .push) .push) .push
        · simp (maxDischargeDepth := 9) only [W_seq, W_asg, W_set, W_V, WV_some, W_C, W_op, W_cmpT, W_isB, W_un, W_tru, W_andT, W_orT, W_notT, W_andV, W_orV, W_notV, W_ife, W_nil, W_cons, W_tup, W_lst, W_addI, W_subI, W_iaddI, W_negI, W_mulI, W_fdivI, W_modI, W_powI, W_cmpI, W_isB_bl, W_isNB, W_isN, W_isntB, W_isntN, W_eqI, W_neI, W_pass, W_brk, W_cont, W_drop, W_rt, W_rtN, W_ifS, W_gsNil, W_gsCons, W_gTup, W_aug, W_call, W_B, RtN_rt, RtN_nx, W_abs, W_intI, W_intB, W_noPart, W_part, W_sl, W_lm, W_lm0, W_iter, W_range1, W_range2, W_forE, W_revE, W_compE, W_yes, W_lenT, W_truB, W_truI, List.append_nil, List.getElem?_cons_zero, List.getElem?_cons_succ, List.set_cons_zero, List.set_cons_succ, List.getElem?_set_self, List.getElem?_set_ne, lt_set, ne_eq, Nat.reduceEqDiff, not_false_eq_true, Nat.reduceLT, Nat.zero_ne_one, Nat.one_ne_zero, Nat.lt_add_one, Nat.zero_lt_succ, startD, List.map_cons, List.map_nil, List.length_cons, List.length_nil, List.cons_append, List.nil_append, Nat.reduceAdd, Nat.reduceSub, Nat.zero_add, List.replicate_succ, List.replicate_zero, W_inSC, List.all_cons, List.all_nil, flatD, List.any_cons, List.any_nil, eqF, Bool.and_true, Bool.or_false, Bool.or_true, Bool.true_or, Bool.false_or, Bool.true_and, Bool.false_and, Option.some.injEq, D.int.injEq, exists_eq_left', exists_eq_left, W_listT, List.set_set, lt_push, len_lt, List.getElem?_append_left, W_fldC, W_setFC, W_clsC, W_methC, W_lenC, W_ixC, W_ixTO, W_isLstC, W_appC, W_listC, W_tupC, W_truC, W_slC, W_slTT, W_addTT, W_addC, W_setIC, W_getIC, W_delC, W_isDctC, W_dgetC, W_dictC, W_dict0, W_eqS, W_neS, W_eqB, W_neB, W_meth, W_make, W_setF, W_augF, W_callK, W_chain, W_chainT, W_del, W_gSub, W_augI, W_get1, W_srcC, WCell_some, WO_some, at0, at1, at2, at3, at4, at5, ix0, ix1, at_nat, memS, lookF, putFD, String.reduceEq, String.reduceBEq, if_true, if_false, Bool.false_eq_true, Option.isNone_none, true_and, and_true, and_self, get_push, isNonD, Bool.not_true, Bool.not_false, cs_from_first, cs_own, cs_others, cs_spare, cs_locks, cs_closed, ha, ea]
        · rw [get_push, pop_cut, erase_map]
        · have := ha; simp; omega
        · simp; omega
    · have hp' : ¬ (p : Int) < (d.locks.length : Int) := by omega
      have hl : d.locks[p]? = none := List.getElem?_eq_none (by omega)
      simp (maxDischargeDepth := 9) only [hp', decide_false, W_seq, W_asg, W_set, W_V, WV_some, W_C, W_op, W_cmpT, W_isB, W_un, W_tru, W_andT, W_orT, W_notT, W_andV, W_orV, W_notV, W_ife, W_nil, W_cons, W_tup, W_lst, W_addI, W_subI, W_iaddI, W_negI, W_mulI, W_fdivI, W_modI, W_powI, W_cmpI, W_isB_bl, W_isNB, W_isN, W_isntB, W_isntN, W_eqI, W_neI, W_pass, W_brk, W_cont, W_drop, W_rt, W_rtN, W_ifS, W_gsNil, W_gsCons, W_gTup, W_aug, W_call, W_B, RtN_rt, RtN_nx, W_abs, W_intI, W_intB, W_noPart, W_part, W_sl, W_lm, W_lm0, W_iter, W_range1, W_range2, W_forE, W_revE, W_compE, W_yes, W_lenT, W_truB, W_truI, List.append_nil, List.getElem?_cons_zero, List.getElem?_cons_succ, List.set_cons_zero, List.set_cons_succ, List.getElem?_set_self, List.getElem?_set_ne, lt_set, ne_eq, Nat.reduceEqDiff, not_false_eq_true, Nat.reduceLT, Nat.zero_ne_one, Nat.one_ne_zero, Nat.lt_add_one, Nat.zero_lt_succ, startD, List.map_cons, List.map_nil, List.length_cons, List.length_nil, List.cons_append, List.nil_append, Nat.reduceAdd, Nat.reduceSub, Nat.zero_add, List.replicate_succ, List.replicate_zero, W_inSC, List.all_cons, List.all_nil, flatD, List.any_cons, List.any_nil, eqF, Bool.and_true, Bool.or_false, Bool.or_true, Bool.true_or, Bool.false_or, Bool.true_and, Bool.false_and, Option.some.injEq, D.int.injEq, exists_eq_left', exists_eq_left, W_listT, List.set_set, lt_push, len_lt, List.getElem?_append_left, W_fldC, W_setFC, W_clsC, W_methC, W_lenC, W_ixC, W_ixTO, W_isLstC, W_appC, W_listC, W_tupC, W_truC, W_slC, W_slTT, W_addTT, W_addC, W_setIC, W_getIC, W_delC, W_isDctC, W_dgetC, W_dictC, W_dict0, W_eqS, W_neS, W_eqB, W_neB, W_meth, W_make, W_setF, W_augF, W_callK, W_chain, W_chainT, W_del, W_gSub, W_augI, W_get1, W_srcC, WCell_some, WO_some, at0, at1, at2, at3, at4, at5, ix0, ix1, at_nat, memS, lookF, putFD, String.reduceEq, String.reduceBEq, if_true, if_false, Bool.false_eq_true, Option.isNone_none, true_and, and_true, and_self, get_push, isNonD, Bool.not_true, Bool.not_false, cs_from_first, cs_own, cs_others, cs_spare, cs_locks, cs_closed, sl, s8, s9, s10, s11, s12, s13, ea, er, ha, hr, ne, ne', List.length_map]
      exact ⟨by decide, q0 (by simp [mk, hl]) _ ((F.trans .push).trans .push)⟩
end
end Lk00

set_option Elab.async false
set_option linter.all false
set_option autoImplicit false
set_option maxRecDepth 100000
set_option maxHeartbeats 4000000
namespace Lk00
open Dt PySem
section
variable {h : Hd} {Q : D → Hd → Prop}
theorem moved_loop {ms : List Mv} {s : Stt} {c1 c2 : Int} {M : Nat} {QS : Fl → Hd → Prop} {σ : Ev} {A R : Nat} {h1 : Hd} {own oth sp : Int} (eM : h[M]? = some (.lst (ms.map mD))) (hM : M ≠ 1) (h2 : 2 ≤ h.length) (sz : s.locks.length ≤ 8)
    (F : Fr [] h h1) (sl : σ.length = 20) (s3 : σ[3]? = some (some (.int s.ch))) (s4 : σ[4]? = some (some (.int s.num))) (s8 : σ[8]? = some (some (.bl s.cl))) (s9 : σ[9]? = some (some (.bl (ffP s)))) (s10 : σ[10]? = some (some (.ref A))) (s11 : σ[11]? = some (some (.int sp))) (s12 : σ[12]? = some (some (.ref R))) (s13 : σ[13]? = some (some (.bl false)))
    (ea : h1[A]? = some (.lst [.int own, .int oth])) (er : h1[R]? = some (.lst (s.locks.map lD))) (ne : A ≠ R) (la : h.length ≤ A) (lr : h.length ≤ R) (e1 : own = (start s).own) (e2 : oth = (start s).oth) (e3 : sp = spP s c1 c2)
    (k0 : nx s ms c1 c2 = none → ∀ h', Fr [] h h' → QS (.rt .non) h')
    (k1 : s.cl = false → ∀ d' σ' h', nx s ms c1 c2 = some (fin' s d') → AtM h h' σ' s (spP s c1 c2) M d' → QS (.nx σ') h')
    (k2 : s.cl = true → nx s ms c1 c2 = none → ∀ σ' h', Fr [] h h' → σ'.length = 20 → σ'[8]? = some (some (.bl true)) → QS (.nx σ') h') :
    W (forL (srcLst M (ms.map mD).length) (gSet 14) L__law_moved_0 ((srcLst M (ms.map mD).length).fuel + 1) 0 σ) h1 QS := by
  subst e1 e2 e3
  cases hc : s.cl
  · rw [hc] at s8
    refine w_forS (xs := ms.map mD) (fun i σ' h' => ∃ d', AtM h h' σ' s (spP s c1 c2) M d' ∧ mks (ffP s) (spP s c1 c2) (start s) ms = mks (ffP s) (spP s c1 c2) d' (ms.drop i)) ⟨start s, ⟨F, sl, s3, s4, s8, s9, s11, s13, sz, A, R, s10, s12, ea, er, ne, la, lr⟩, by simp⟩ ?_ ?_ ?_
    · rintro i σ' h' ⟨d', A', _⟩
      exact A'.fr.keep eM (by simp) hM
    · rintro i σ' h' hi ⟨d', A', e⟩
      have hi' : i < ms.length := by simpa using hi
      have dr : ms.drop i = ms[i] :: ms.drop (i + 1) := List.drop_eq_getElem_cons hi'
      rw [dr, mks] at e
      rw [List.getElem_map]
      refine moved_turn h2 A' (fun e2 h3 F3 => ?_) fun d2 σ2 h3 e2 A2 => ⟨d2, A2, by rw [e, e2]; rfl⟩
      exact k0 (by simp [nx, hc, e, e2]) _ F3
    · rintro σ' h' ⟨d', A', e⟩
      rw [List.length_map, List.drop_length, mks] at e
      exact k1 hc d' σ' h' (by simp [nx, hc, e]) A'
  · rw [hc] at s8
    have e3 : nx s ms c1 c2 = none := by simp [nx, hc]
    refine w_forS (xs := ms.map mD) (fun i σ' h' => i = 0 ∧ Fr [] h h' ∧ σ'.length = 20 ∧ σ'[8]? = some (some (.bl true)) ∨ ms = [] ∧ Fr [] h h' ∧ σ'.length = 20 ∧ σ'[8]? = some (some (.bl true))) (.inl ⟨rfl, F, sl, s8⟩) ?_ ?_ ?_
    · rintro i σ' h' (⟨_, F', _⟩ | ⟨_, F', _⟩) <;> exact F'.keep eM (by simp) hM
    · rintro i σ' h' hi z
      have z : Fr [] h h' ∧ σ'.length = 20 ∧ σ'[8]? = some (some (.bl true)) := by rcases z with ⟨_, z⟩ | ⟨_, z⟩ <;> exact z
      obtain ⟨F', sl', s8'⟩ := z
      unfold Turn L__law_moved_0
      simp (maxDischargeDepth := 9) only [W_seq, W_asg, W_set, W_V, WV_some, W_C, W_op, W_cmpT, W_isB, W_un, W_tru, W_andT, W_orT, W_notT, W_andV, W_orV, W_notV, W_ife, W_nil, W_cons, W_tup, W_lst, W_addI, W_subI, W_iaddI, W_negI, W_mulI, W_fdivI, W_modI, W_powI, W_cmpI, W_isB_bl, W_isNB, W_isN, W_isntB, W_isntN, W_eqI, W_neI, W_pass, W_brk, W_cont, W_drop, W_rt, W_rtN, W_ifS, W_gsNil, W_gsCons, W_gTup, W_aug, W_call, W_B, RtN_rt, RtN_nx, W_abs, W_intI, W_intB, W_noPart, W_part, W_sl, W_lm, W_lm0, W_iter, W_range1, W_range2, W_forE, W_revE, W_compE, W_yes, W_lenT, W_truB, W_truI, List.append_nil, List.getElem?_cons_zero, List.getElem?_cons_succ, List.set_cons_zero, List.set_cons_succ, List.getElem?_set_self, List.getElem?_set_ne, lt_set, ne_eq, Nat.reduceEqDiff, not_false_eq_true, Nat.reduceLT, Nat.zero_ne_one, Nat.one_ne_zero, Nat.lt_add_one, Nat.zero_lt_succ, startD, List.map_cons, List.map_nil, List.length_cons, List.length_nil, List.cons_append, List.nil_append, Nat.reduceAdd, Nat.reduceSub, Nat.zero_add, List.replicate_succ, List.replicate_zero, W_inSC, List.all_cons, List.all_nil, flatD, List.any_cons, List.any_nil, eqF, Bool.and_true, Bool.or_false, Bool.or_true, Bool.true_or, Bool.false_or, Bool.true_and, Bool.false_and, Option.some.injEq, D.int.injEq, exists_eq_left', exists_eq_left, W_listT, List.set_set, lt_push, len_lt, List.getElem?_append_left, W_fldC, W_setFC, W_clsC, W_methC, W_lenC, W_ixC, W_ixTO, W_isLstC, W_appC, W_listC, W_tupC, W_truC, W_slC, W_slTT, W_addTT, W_addC, W_setIC, W_getIC, W_delC, W_isDctC, W_dgetC, W_dictC, W_dict0, W_eqS, W_neS, W_eqB, W_neB, W_meth, W_make, W_setF, W_augF, W_callK, W_chain, W_chainT, W_del, W_gSub, W_augI, W_get1, W_srcC, WCell_some, WO_some, at0, at1, at2, at3, at4, at5, ix0, ix1, at_nat, memS, lookF, putFD, String.reduceEq, String.reduceBEq, if_true, if_false, Bool.false_eq_true, Option.isNone_none, true_and, and_true, and_self, get_push, isNonD, Bool.not_true, Bool.not_false, cs_from_first, cs_own, cs_others, cs_spare, cs_locks, cs_closed, sl', s8']
      exact k0 e3 _ F'
    · rintro σ' h' z
      have z : Fr [] h h' ∧ σ'.length = 20 ∧ σ'[8]? = some (some (.bl true)) := by rcases z with ⟨_, z⟩ | ⟨_, z⟩ <;> exact z
      obtain ⟨F', sl', s8'⟩ := z
      exact k2 hc e3 _ _ F' sl' s8'
theorem moved_law {ms : List Mv} {s : Stt} {c1 c2 : Int} {M : Nat} (eM : h[M]? = some (.lst (ms.map mD))) (hM : M ≠ 1) (h2 : 2 ≤ h.length) (sz : s.locks.length ≤ 8) (q : ∀ h', Fr [] h h' → Q (oD (nx s ms c1 c2)) h') : W (F__law_moved [sD s, .ref M, .tup [.int c1, .int c2]]) h Q := by
  unfold F__law_moved B__law_moved
  refine w_run rfl ?_
  have lM := get_lt eM
  simp (maxDischargeDepth := 9) only [W_seq, W_asg, W_set, W_V, WV_some, W_C, W_op, W_cmpT, W_isB, W_un, W_tru, W_andT, W_orT, W_notT, W_andV, W_orV, W_notV, W_ife, W_nil, W_cons, W_tup, W_lst, W_addI, W_subI, W_iaddI, W_negI, W_mulI, W_fdivI, W_modI, W_powI, W_cmpI, W_isB_bl, W_isNB, W_isN, W_isntB, W_isntN, W_eqI, W_neI, W_pass, W_brk, W_cont, W_drop, W_rt, W_rtN, W_ifS, W_gsNil, W_gsCons, W_gTup, W_aug, W_call, W_B, RtN_rt, RtN_nx, W_abs, W_intI, W_intB, W_noPart, W_part, W_sl, W_lm, W_lm0, W_iter, W_range1, W_range2, W_forE, W_revE, W_compE, W_yes, W_lenT, W_truB, W_truI, List.append_nil, List.getElem?_cons_zero, List.getElem?_cons_succ, List.set_cons_zero, List.set_cons_succ, List.getElem?_set_self, List.getElem?_set_ne, lt_set, ne_eq, Nat.reduceEqDiff, not_false_eq_true, Nat.reduceLT, Nat.zero_ne_one, Nat.one_ne_zero, Nat.lt_add_one, Nat.zero_lt_succ, startD, List.map_cons, List.map_nil, List.length_cons, List.length_nil, List.cons_append, List.nil_append, Nat.reduceAdd, Nat.reduceSub, Nat.zero_add, List.replicate_succ, List.replicate_zero, W_inSC, List.all_cons, List.all_nil, flatD, List.any_cons, List.any_nil, eqF, Bool.and_true, Bool.or_false, Bool.or_true, Bool.true_or, Bool.false_or, Bool.true_and, Bool.false_and, Option.some.injEq, D.int.injEq, exists_eq_left', exists_eq_left, W_listT, List.set_set, lt_push, len_lt, List.getElem?_append_left, W_fldC, W_setFC, W_clsC, W_methC, W_lenC, W_ixC, W_ixTO, W_isLstC, W_appC, W_listC, W_tupC, W_truC, W_slC, W_slTT, W_addTT, W_addC, W_setIC, W_getIC, W_delC, W_isDctC, W_dgetC, W_dictC, W_dict0, W_eqS, W_neS, W_eqB, W_neB, W_meth, W_make, W_setF, W_augF, W_callK, W_chain, W_chainT, W_del, W_gSub, W_augI, W_get1, W_srcC, WCell_some, WO_some, at0, at1, at2, at3, at4, at5, ix0, ix1, at_nat, memS, lookF, putFD, String.reduceEq, String.reduceBEq, if_true, if_false, Bool.false_eq_true, Option.isNone_none, true_and, and_true, and_self, get_push, isNonD, Bool.not_true, Bool.not_false, cs_from_first, cs_own, cs_others, cs_spare, cs_locks, cs_closed, sD]
  refine ⟨by decide, .inl (by decide), ?_⟩
  rw [mine_eq, show ((s.num + 1) % 2 == 1) = ffP s from rfl]
  cases hf : ffP s
  · simp (maxDischargeDepth := 9) only [W_seq, W_asg, W_set, W_V, WV_some, W_C, W_op, W_cmpT, W_isB, W_un, W_tru, W_andT, W_orT, W_notT, W_andV, W_orV, W_notV, W_ife, W_nil, W_cons, W_tup, W_lst, W_addI, W_subI, W_iaddI, W_negI, W_mulI, W_fdivI, W_modI, W_powI, W_cmpI, W_isB_bl, W_isNB, W_isN, W_isntB, W_isntN, W_eqI, W_neI, W_pass, W_brk, W_cont, W_drop, W_rt, W_rtN, W_ifS, W_gsNil, W_gsCons, W_gTup, W_aug, W_call, W_B, RtN_rt, RtN_nx, W_abs, W_intI, W_intB, W_noPart, W_part, W_sl, W_lm, W_lm0, W_iter, W_range1, W_range2, W_forE, W_revE, W_compE, W_yes, W_lenT, W_truB, W_truI, List.append_nil, List.getElem?_cons_zero, List.getElem?_cons_succ, List.set_cons_zero, List.set_cons_succ, List.getElem?_set_self, List.getElem?_set_ne, lt_set, ne_eq, Nat.reduceEqDiff, not_false_eq_true, Nat.reduceLT, Nat.zero_ne_one, Nat.one_ne_zero, Nat.lt_add_one, Nat.zero_lt_succ, startD, List.map_cons, List.map_nil, List.length_cons, List.length_nil, List.cons_append, List.nil_append, Nat.reduceAdd, Nat.reduceSub, Nat.zero_add, List.replicate_succ, List.replicate_zero, W_inSC, List.all_cons, List.all_nil, flatD, List.any_cons, List.any_nil, eqF, Bool.and_true, Bool.or_false, Bool.or_true, Bool.true_or, Bool.false_or, Bool.true_and, Bool.false_and, Option.some.injEq, D.int.injEq, exists_eq_left', exists_eq_left, W_listT, List.set_set, lt_push, len_lt, List.getElem?_append_left, W_fldC, W_setFC, W_clsC, W_methC, W_lenC, W_ixC, W_ixTO, W_isLstC, W_appC, W_listC, W_tupC, W_truC, W_slC, W_slTT, W_addTT, W_addC, W_setIC, W_getIC, W_delC, W_isDctC, W_dgetC, W_dictC, W_dict0, W_eqS, W_neS, W_eqB, W_neB, W_meth, W_make, W_setF, W_augF, W_callK, W_chain, W_chainT, W_del, W_gSub, W_augI, W_get1, W_srcC, WCell_some, WO_some, at0, at1, at2, at3, at4, at5, ix0, ix1, at_nat, memS, lookF, putFD, String.reduceEq, String.reduceBEq, if_true, if_false, Bool.false_eq_true, Option.isNone_none, true_and, and_true, and_self, get_push, isNonD, Bool.not_true, Bool.not_false, cs_from_first, cs_own, cs_others, cs_spare, cs_locks, cs_closed, eM, lM]
    refine ⟨by decide, ?_⟩
    refine moved_loop (s := s) (c1 := c1) (c2 := c2) eM hM h2 sz (Fr.push.trans .push) (by simp) (by simp) (by simp) (by simp) (by simp [hf]) (by simp <;> rfl) (by simp <;> rfl) (by simp <;> rfl) (by simp) (by simp (maxDischargeDepth := 9) only [W_seq, W_asg, W_set, W_V, WV_some, W_C, W_op, W_cmpT, W_isB, W_un, W_tru, W_andT, W_orT, W_notT, W_andV, W_orV, W_notV, W_ife, W_nil, W_cons, W_tup, W_lst, W_addI, W_subI, W_iaddI, W_negI, W_mulI, W_fdivI, W_modI, W_powI, W_cmpI, W_isB_bl, W_isNB, W_isN, W_isntB, W_isntN, W_eqI, W_neI, W_pass, W_brk, W_cont, W_drop, W_rt, W_rtN, W_ifS, W_gsNil, W_gsCons, W_gTup, W_aug, W_call, W_B, RtN_rt, RtN_nx, W_abs, W_intI, W_intB, W_noPart, W_part, W_sl, W_lm, W_lm0, W_iter, W_range1, W_range2, W_forE, W_revE, W_compE, W_yes, W_lenT, W_truB, W_truI, List.append_nil, List.getElem?_cons_zero, List.getElem?_cons_succ, List.set_cons_zero, List.set_cons_succ, List.getElem?_set_self, List.getElem?_set_ne, lt_set, ne_eq, Nat.reduceEqDiff, not_false_eq_true, Nat.reduceLT, Nat.zero_ne_one, Nat.one_ne_zero, Nat.lt_add_one, Nat.zero_lt_succ, startD, List.map_cons, List.map_nil, List.length_cons, List.length_nil, List.cons_append, List.nil_append, Nat.reduceAdd, Nat.reduceSub, Nat.zero_add, List.replicate_succ, List.replicate_zero, W_inSC, List.all_cons, List.all_nil, flatD, List.any_cons, List.any_nil, eqF, Bool.and_true, Bool.or_false, Bool.or_true, Bool.true_or, Bool.false_or, Bool.true_and, Bool.false_and, Option.some.injEq, D.int.injEq, exists_eq_left', exists_eq_left, W_listT, List.set_set, lt_push, len_lt, List.getElem?_append_left, W_fldC, W_setFC, W_clsC, W_methC, W_lenC, W_ixC, W_ixTO, W_isLstC, W_appC, W_listC, W_tupC, W_truC, W_slC, W_slTT, W_addTT, W_addC, W_setIC, W_getIC, W_delC, W_isDctC, W_dgetC, W_dictC, W_dict0, W_eqS, W_neS, W_eqB, W_neB, W_meth, W_make, W_setF, W_augF, W_callK, W_chain, W_chainT, W_del, W_gSub, W_augI, W_get1, W_srcC, WCell_some, WO_some, at0, at1, at2, at3, at4, at5, ix0, ix1, at_nat, memS, lookF, putFD, String.reduceEq, String.reduceBEq, if_true, if_false, Bool.false_eq_true, Option.isNone_none, true_and, and_true, and_self, get_push, isNonD, Bool.not_true, Bool.not_false, cs_from_first, cs_own, cs_others, cs_spare, cs_locks, cs_closed] <;> rfl) get_push (by simp) (by simp) (by simp) (by simp [start, hf]) (by simp [start, hf]) (by simp [spP, hf]) (fun e3 h' F' => ?_) (fun hc d' σ' h' e3 A' => ?_) (fun hc e3 σ' h' F' sl' s8' => ?_)
    · have q' := fun h' F => q h' F
      simp only [e3, oD] at q'
      exact q' _ F'
    · obtain ⟨F', sl', s3', s4', s8', s9', s11', s13', sz', a, r, s10', s12', ea', er', ne', la', lr'⟩ := A'
      have ha := get_lt ea'
      have hr := get_lt er'
      have q' := fun h' F => q h' F
      simp only [e3, oD, sD, fin', hf, Bool.false_eq_true, if_false] at q'
      rw [hf] at s9'
      simp (maxDischargeDepth := 9) only [W_seq, W_asg, W_set, W_V, WV_some, W_C, W_op, W_cmpT, W_isB, W_un, W_tru, W_andT, W_orT, W_notT, W_andV, W_orV, W_notV, W_ife, W_nil, W_cons, W_tup, W_lst, W_addI, W_subI, W_iaddI, W_negI, W_mulI, W_fdivI, W_modI, W_powI, W_cmpI, W_isB_bl, W_isNB, W_isN, W_isntB, W_isntN, W_eqI, W_neI, W_pass, W_brk, W_cont, W_drop, W_rt, W_rtN, W_ifS, W_gsNil, W_gsCons, W_gTup, W_aug, W_call, W_B, RtN_rt, RtN_nx, W_abs, W_intI, W_intB, W_noPart, W_part, W_sl, W_lm, W_lm0, W_iter, W_range1, W_range2, W_forE, W_revE, W_compE, W_yes, W_lenT, W_truB, W_truI, List.append_nil, List.getElem?_cons_zero, List.getElem?_cons_succ, List.set_cons_zero, List.set_cons_succ, List.getElem?_set_self, List.getElem?_set_ne, lt_set, ne_eq, Nat.reduceEqDiff, not_false_eq_true, Nat.reduceLT, Nat.zero_ne_one, Nat.one_ne_zero, Nat.lt_add_one, Nat.zero_lt_succ, startD, List.map_cons, List.map_nil, List.length_cons, List.length_nil, List.cons_append, List.nil_append, Nat.reduceAdd, Nat.reduceSub, Nat.zero_add, List.replicate_succ, List.replicate_zero, W_inSC, List.all_cons, List.all_nil, flatD, List.any_cons, List.any_nil, eqF, Bool.and_true, Bool.or_false, Bool.or_true, Bool.true_or, Bool.false_or, Bool.true_and, Bool.false_and, Option.some.injEq, D.int.injEq, exists_eq_left', exists_eq_left, W_listT, List.set_set, lt_push, len_lt, List.getElem?_append_left, W_fldC, W_setFC, W_clsC, W_methC, W_lenC, W_ixC, W_ixTO, W_isLstC, W_appC, W_listC, W_tupC, W_truC, W_slC, W_slTT, W_addTT, W_addC, W_setIC, W_getIC, W_delC, W_isDctC, W_dgetC, W_dictC, W_dict0, W_eqS, W_neS, W_eqB, W_neB, W_meth, W_make, W_setF, W_augF, W_callK, W_chain, W_chainT, W_del, W_gSub, W_augI, W_get1, W_srcC, WCell_some, WO_some, at0, at1, at2, at3, at4, at5, ix0, ix1, at_nat, memS, lookF, putFD, String.reduceEq, String.reduceBEq, if_true, if_false, Bool.false_eq_true, Option.isNone_none, true_and, and_true, and_self, get_push, isNonD, Bool.not_true, Bool.not_false, cs_from_first, cs_own, cs_others, cs_spare, cs_locks, cs_closed, sl', s3', s4', s8', s9', s10', s12', s13', ea', er', ha, hr]
      exact ⟨by decide, by decide, q' _ (F'.trans .push)⟩
    · have q' := fun h' F => q h' F
      simp only [e3, oD] at q'
      simp (maxDischargeDepth := 9) only [W_seq, W_asg, W_set, W_V, WV_some, W_C, W_op, W_cmpT, W_isB, W_un, W_tru, W_andT, W_orT, W_notT, W_andV, W_orV, W_notV, W_ife, W_nil, W_cons, W_tup, W_lst, W_addI, W_subI, W_iaddI, W_negI, W_mulI, W_fdivI, W_modI, W_powI, W_cmpI, W_isB_bl, W_isNB, W_isN, W_isntB, W_isntN, W_eqI, W_neI, W_pass, W_brk, W_cont, W_drop, W_rt, W_rtN, W_ifS, W_gsNil, W_gsCons, W_gTup, W_aug, W_call, W_B, RtN_rt, RtN_nx, W_abs, W_intI, W_intB, W_noPart, W_part, W_sl, W_lm, W_lm0, W_iter, W_range1, W_range2, W_forE, W_revE, W_compE, W_yes, W_lenT, W_truB, W_truI, List.append_nil, List.getElem?_cons_zero, List.getElem?_cons_succ, List.set_cons_zero, List.set_cons_succ, List.getElem?_set_self, List.getElem?_set_ne, lt_set, ne_eq, Nat.reduceEqDiff, not_false_eq_true, Nat.reduceLT, Nat.zero_ne_one, Nat.one_ne_zero, Nat.lt_add_one, Nat.zero_lt_succ, startD, List.map_cons, List.map_nil, List.length_cons, List.length_nil, List.cons_append, List.nil_append, Nat.reduceAdd, Nat.reduceSub, Nat.zero_add, List.replicate_succ, List.replicate_zero, W_inSC, List.all_cons, List.all_nil, flatD, List.any_cons, List.any_nil, eqF, Bool.and_true, Bool.or_false, Bool.or_true, Bool.true_or, Bool.false_or, Bool.true_and, Bool.false_and, Option.some.injEq, D.int.injEq, exists_eq_left', exists_eq_left, W_listT, List.set_set, lt_push, len_lt, List.getElem?_append_left, W_fldC, W_setFC, W_clsC, W_methC, W_lenC, W_ixC, W_ixTO, W_isLstC, W_appC, W_listC, W_tupC, W_truC, W_slC, W_slTT, W_addTT, W_addC, W_setIC, W_getIC, W_delC, W_isDctC, W_dgetC, W_dictC, W_dict0, W_eqS, W_neS, W_eqB, W_neB, W_meth, W_make, W_setF, W_augF, W_callK, W_chain, W_chainT, W_del, W_gSub, W_augI, W_get1, W_srcC, WCell_some, WO_some, at0, at1, at2, at3, at4, at5, ix0, ix1, at_nat, memS, lookF, putFD, String.reduceEq, String.reduceBEq, if_true, if_false, Bool.false_eq_true, Option.isNone_none, true_and, and_true, and_self, get_push, isNonD, Bool.not_true, Bool.not_false, cs_from_first, cs_own, cs_others, cs_spare, cs_locks, cs_closed, sl', s8']
      exact q' _ F'
  · simp (maxDischargeDepth := 9) only [W_seq, W_asg, W_set, W_V, WV_some, W_C, W_op, W_cmpT, W_isB, W_un, W_tru, W_andT, W_orT, W_notT, W_andV, W_orV, W_notV, W_ife, W_nil, W_cons, W_tup, W_lst, W_addI, W_subI, W_iaddI, W_negI, W_mulI, W_fdivI, W_modI, W_powI, W_cmpI, W_isB_bl, W_isNB, W_isN, W_isntB, W_isntN, W_eqI, W_neI, W_pass, W_brk, W_cont, W_drop, W_rt, W_rtN, W_ifS, W_gsNil, W_gsCons, W_gTup, W_aug, W_call, W_B, RtN_rt, RtN_nx, W_abs, W_intI, W_intB, W_noPart, W_part, W_sl, W_lm, W_lm0, W_iter, W_range1, W_range2, W_forE, W_revE, W_compE, W_yes, W_lenT, W_truB, W_truI, List.append_nil, List.getElem?_cons_zero, List.getElem?_cons_succ, List.set_cons_zero, List.set_cons_succ, List.getElem?_set_self, List.getElem?_set_ne, lt_set, ne_eq, Nat.reduceEqDiff, not_false_eq_true, Nat.reduceLT, Nat.zero_ne_one, Nat.one_ne_zero, Nat.lt_add_one, Nat.zero_lt_succ, startD, List.map_cons, List.map_nil, List.length_cons, List.length_nil, List.cons_append, List.nil_append, Nat.reduceAdd, Nat.reduceSub, Nat.zero_add, List.replicate_succ, List.replicate_zero, W_inSC, List.all_cons, List.all_nil, flatD, List.any_cons, List.any_nil, eqF, Bool.and_true, Bool.or_false, Bool.or_true, Bool.true_or, Bool.false_or, Bool.true_and, Bool.false_and, Option.some.injEq, D.int.injEq, exists_eq_left', exists_eq_left, W_listT, List.set_set, lt_push, len_lt, List.getElem?_append_left, W_fldC, W_setFC, W_clsC, W_methC, W_lenC, W_ixC, W_ixTO, W_isLstC, W_appC, W_listC, W_tupC, W_truC, W_slC, W_slTT, W_addTT, W_addC, W_setIC, W_getIC, W_delC, W_isDctC, W_dgetC, W_dictC, W_dict0, W_eqS, W_neS, W_eqB, W_neB, W_meth, W_make, W_setF, W_augF, W_callK, W_chain, W_chainT, W_del, W_gSub, W_augI, W_get1, W_srcC, WCell_some, WO_some, at0, at1, at2, at3, at4, at5, ix0, ix1, at_nat, memS, lookF, putFD, String.reduceEq, String.reduceBEq, if_true, if_false, Bool.false_eq_true, Option.isNone_none, true_and, and_true, and_self, get_push, isNonD, Bool.not_true, Bool.not_false, cs_from_first, cs_own, cs_others, cs_spare, cs_locks, cs_closed, eM, lM]
    refine ⟨by decide, ?_⟩
    refine moved_loop (s := s) (c1 := c1) (c2 := c2) eM hM h2 sz (Fr.push.trans .push) (by simp) (by simp) (by simp) (by simp) (by simp [hf]) (by simp <;> rfl) (by simp <;> rfl) (by simp <;> rfl) (by simp) (by simp (maxDischargeDepth := 9) only [W_seq, W_asg, W_set, W_V, WV_some, W_C, W_op, W_cmpT, W_isB, W_un, W_tru, W_andT, W_orT, W_notT, W_andV, W_orV, W_notV, W_ife, W_nil, W_cons, W_tup, W_lst, W_addI, W_subI, W_iaddI, W_negI, W_mulI, W_fdivI, W_modI, W_powI, W_cmpI, W_isB_bl, W_isNB, W_isN, W_isntB, W_isntN, W_eqI, W_neI, W_pass, W_brk, W_cont, W_drop, W_rt, W_rtN, W_ifS, W_gsNil, W_gsCons, W_gTup, W_aug, W_call, W_B, RtN_rt, RtN_nx, W_abs, W_intI, W_intB, W_noPart, W_part, W_sl, W_lm, W_lm0, W_iter, W_range1, W_range2, W_forE, W_revE, W_compE, W_yes, W_lenT, W_truB, W_truI, List.append_nil, List.getElem?_cons_zero, List.getElem?_cons_succ, List.set_cons_zero, List.set_cons_succ, List.getElem?_set_self, List.getElem?_set_ne, lt_set, ne_eq, Nat.reduceEqDiff, not_false_eq_true, Nat.reduceLT, Nat.zero_ne_one, Nat.one_ne_zero, Nat.lt_add_one, Nat.zero_lt_succ, startD, List.map_cons, List.map_nil, List.length_cons, List.length_nil, List.cons_append, List.nil_append, Nat.reduceAdd, Nat.reduceSub, Nat.zero_add, List.replicate_succ, List.replicate_zero, W_inSC, List.all_cons, List.all_nil, flatD, List.any_cons, List.any_nil, eqF, Bool.and_true, Bool.or_false, Bool.or_true, Bool.true_or, Bool.false_or, Bool.true_and, Bool.false_and, Option.some.injEq, D.int.injEq, exists_eq_left', exists_eq_left, W_listT, List.set_set, lt_push, len_lt, List.getElem?_append_left, W_fldC, W_setFC, W_clsC, W_methC, W_lenC, W_ixC, W_ixTO, W_isLstC, W_appC, W_listC, W_tupC, W_truC, W_slC, W_slTT, W_addTT, W_addC, W_setIC, W_getIC, W_delC, W_isDctC, W_dgetC, W_dictC, W_dict0, W_eqS, W_neS, W_eqB, W_neB, W_meth, W_make, W_setF, W_augF, W_callK, W_chain, W_chainT, W_del, W_gSub, W_augI, W_get1, W_srcC, WCell_some, WO_some, at0, at1, at2, at3, at4, at5, ix0, ix1, at_nat, memS, lookF, putFD, String.reduceEq, String.reduceBEq, if_true, if_false, Bool.false_eq_true, Option.isNone_none, true_and, and_true, and_self, get_push, isNonD, Bool.not_true, Bool.not_false, cs_from_first, cs_own, cs_others, cs_spare, cs_locks, cs_closed] <;> rfl) get_push (by simp) (by simp) (by simp) (by simp [start, hf]) (by simp [start, hf]) (by simp [spP, hf]) (fun e3 h' F' => ?_) (fun hc d' σ' h' e3 A' => ?_) (fun hc e3 σ' h' F' sl' s8' => ?_)
    · have q' := fun h' F => q h' F
      simp only [e3, oD] at q'
      exact q' _ F'
    · obtain ⟨F', sl', s3', s4', s8', s9', s11', s13', sz', a, r, s10', s12', ea', er', ne', la', lr'⟩ := A'
      have ha := get_lt ea'
      have hr := get_lt er'
      have q' := fun h' F => q h' F
      simp only [e3, oD, sD, fin', hf, if_true] at q'
      rw [hf] at s9'
      simp (maxDischargeDepth := 9) only [W_seq, W_asg, W_set, W_V, WV_some, W_C, W_op, W_cmpT, W_isB, W_un, W_tru, W_andT, W_orT, W_notT, W_andV, W_orV, W_notV, W_ife, W_nil, W_cons, W_tup, W_lst, W_addI, W_subI, W_iaddI, W_negI, W_mulI, W_fdivI, W_modI, W_powI, W_cmpI, W_isB_bl, W_isNB, W_isN, W_isntB, W_isntN, W_eqI, W_neI, W_pass, W_brk, W_cont, W_drop, W_rt, W_rtN, W_ifS, W_gsNil, W_gsCons, W_gTup, W_aug, W_call, W_B, RtN_rt, RtN_nx, W_abs, W_intI, W_intB, W_noPart, W_part, W_sl, W_lm, W_lm0, W_iter, W_range1, W_range2, W_forE, W_revE, W_compE, W_yes, W_lenT, W_truB, W_truI, List.append_nil, List.getElem?_cons_zero, List.getElem?_cons_succ, List.set_cons_zero, List.set_cons_succ, List.getElem?_set_self, List.getElem?_set_ne, lt_set, ne_eq, Nat.reduceEqDiff, not_false_eq_true, Nat.reduceLT, Nat.zero_ne_one, Nat.one_ne_zero, Nat.lt_add_one, Nat.zero_lt_succ, startD, List.map_cons, List.map_nil, List.length_cons, List.length_nil, List.cons_append, List.nil_append, Nat.reduceAdd, Nat.reduceSub, Nat.zero_add, List.replicate_succ, List.replicate_zero, W_inSC, List.all_cons, List.all_nil, flatD, List.any_cons, List.any_nil, eqF, Bool.and_true, Bool.or_false, Bool.or_true, Bool.true_or, Bool.false_or, Bool.true_and, Bool.false_and, Option.some.injEq, D.int.injEq, exists_eq_left', exists_eq_left, W_listT, List.set_set, lt_push, len_lt, List.getElem?_append_left, W_fldC, W_setFC, W_clsC, W_methC, W_lenC, W_ixC, W_ixTO, W_isLstC, W_appC, W_listC, W_tupC, W_truC, W_slC, W_slTT, W_addTT, W_addC, W_setIC, W_getIC, W_delC, W_isDctC, W_dgetC, W_dictC, W_dict0, W_eqS, W_neS, W_eqB, W_neB, W_meth, W_make, W_setF, W_augF, W_callK, W_chain, W_chainT, W_del, W_gSub, W_augI, W_get1, W_srcC, WCell_some, WO_some, at0, at1, at2, at3, at4, at5, ix0, ix1, at_nat, memS, lookF, putFD, String.reduceEq, String.reduceBEq, if_true, if_false, Bool.false_eq_true, Option.isNone_none, true_and, and_true, and_self, get_push, isNonD, Bool.not_true, Bool.not_false, cs_from_first, cs_own, cs_others, cs_spare, cs_locks, cs_closed, sl', s3', s4', s8', s9', s10', s12', s13', ea', er', ha, hr]
      exact ⟨by decide, q' _ F'⟩
    · have q' := fun h' F => q h' F
      simp only [e3, oD] at q'
      simp (maxDischargeDepth := 9) only [W_seq, W_asg, W_set, W_V, WV_some, W_C, W_op, W_cmpT, W_isB, W_un, W_tru, W_andT, W_orT, W_notT, W_andV, W_orV, W_notV, W_ife, W_nil, W_cons, W_tup, W_lst, W_addI, W_subI, W_iaddI, W_negI, W_mulI, W_fdivI, W_modI, W_powI, W_cmpI, W_isB_bl, W_isNB, W_isN, W_isntB, W_isntN, W_eqI, W_neI, W_pass, W_brk, W_cont, W_drop, W_rt, W_rtN, W_ifS, W_gsNil, W_gsCons, W_gTup, W_aug, W_call, W_B, RtN_rt, RtN_nx, W_abs, W_intI, W_intB, W_noPart, W_part, W_sl, W_lm, W_lm0, W_iter, W_range1, W_range2, W_forE, W_revE, W_compE, W_yes, W_lenT, W_truB, W_truI, List.append_nil, List.getElem?_cons_zero, List.getElem?_cons_succ, List.set_cons_zero, List.set_cons_succ, List.getElem?_set_self, List.getElem?_set_ne, lt_set, ne_eq, Nat.reduceEqDiff, not_false_eq_true, Nat.reduceLT, Nat.zero_ne_one, Nat.one_ne_zero, Nat.lt_add_one, Nat.zero_lt_succ, startD, List.map_cons, List.map_nil, List.length_cons, List.length_nil, List.cons_append, List.nil_append, Nat.reduceAdd, Nat.reduceSub, Nat.zero_add, List.replicate_succ, List.replicate_zero, W_inSC, List.all_cons, List.all_nil, flatD, List.any_cons, List.any_nil, eqF, Bool.and_true, Bool.or_false, Bool.or_true, Bool.true_or, Bool.false_or, Bool.true_and, Bool.false_and, Option.some.injEq, D.int.injEq, exists_eq_left', exists_eq_left, W_listT, List.set_set, lt_push, len_lt, List.getElem?_append_left, W_fldC, W_setFC, W_clsC, W_methC, W_lenC, W_ixC, W_ixTO, W_isLstC, W_appC, W_listC, W_tupC, W_truC, W_slC, W_slTT, W_addTT, W_addC, W_setIC, W_getIC, W_delC, W_isDctC, W_dgetC, W_dictC, W_dict0, W_eqS, W_neS, W_eqB, W_neB, W_meth, W_make, W_setF, W_augF, W_callK, W_chain, W_chainT, W_del, W_gSub, W_augI, W_get1, W_srcC, WCell_some, WO_some, at0, at1, at2, at3, at4, at5, ix0, ix1, at_nat, memS, lookF, putFD, String.reduceEq, String.reduceBEq, if_true, if_false, Bool.false_eq_true, Option.isNone_none, true_and, and_true, and_self, get_push, isNonD, Bool.not_true, Bool.not_false, cs_from_first, cs_own, cs_others, cs_spare, cs_locks, cs_closed, sl', s8']
      exact q' _ F'
/-! ### drawing -/
theorem secret_law {k : Int} (h0 : 0 ≤ k) (h6 : k < 6) (q : ∀ (v : Int) h', Fr [] h h' → Q (.int v) h') : W (F__law_secret [.int k]) h Q := by
  unfold F__law_secret B__law_secret
  refine w_run rfl ?_
  obtain ⟨j, rfl⟩ := Int.eq_ofNat_of_zero_le h0
  simp (maxDischargeDepth := 9) only [W_seq, W_asg, W_set, W_V, WV_some, W_C, W_op, W_cmpT, W_isB, W_un, W_tru, W_andT, W_orT, W_notT, W_andV, W_orV, W_notV, W_ife, W_nil, W_cons, W_tup, W_lst, W_addI, W_subI, W_iaddI, W_negI, W_mulI, W_fdivI, W_modI, W_powI, W_cmpI, W_isB_bl, W_isNB, W_isN, W_isntB, W_isntN, W_eqI, W_neI, W_pass, W_brk, W_cont, W_drop, W_rt, W_rtN, W_ifS, W_gsNil, W_gsCons, W_gTup, W_aug, W_call, W_B, RtN_rt, RtN_nx, W_abs, W_intI, W_intB, W_noPart, W_part, W_sl, W_lm, W_lm0, W_iter, W_range1, W_range2, W_forE, W_revE, W_compE, W_yes, W_lenT, W_truB, W_truI, List.append_nil, List.getElem?_cons_zero, List.getElem?_cons_succ, List.set_cons_zero, List.set_cons_succ, List.getElem?_set_self, List.getElem?_set_ne, lt_set, ne_eq, Nat.reduceEqDiff, not_false_eq_true, Nat.reduceLT, Nat.zero_ne_one, Nat.one_ne_zero, Nat.lt_add_one, Nat.zero_lt_succ, startD, List.map_cons, List.map_nil, List.length_cons, List.length_nil, List.cons_append, List.nil_append, Nat.reduceAdd, Nat.reduceSub, Nat.zero_add, List.replicate_succ, List.replicate_zero, W_inSC, List.all_cons, List.all_nil, flatD, List.any_cons, List.any_nil, eqF, Bool.and_true, Bool.or_false, Bool.or_true, Bool.true_or, Bool.false_or, Bool.true_and, Bool.false_and, Option.some.injEq, D.int.injEq, exists_eq_left', exists_eq_left, W_listT, List.set_set, lt_push, len_lt, List.getElem?_append_left, W_fldC, W_setFC, W_clsC, W_methC, W_lenC, W_ixC, W_ixTO, W_isLstC, W_appC, W_listC, W_tupC, W_truC, W_slC, W_slTT, W_addTT, W_addC, W_setIC, W_getIC, W_delC, W_isDctC, W_dgetC, W_dictC, W_dict0, W_eqS, W_neS, W_eqB, W_neB, W_meth, W_make, W_setF, W_augF, W_callK, W_chain, W_chainT, W_del, W_gSub, W_augI, W_get1, W_srcC, WCell_some, WO_some, at0, at1, at2, at3, at4, at5, ix0, ix1, at_nat, memS, lookF, putFD, String.reduceEq, String.reduceBEq, if_true, if_false, Bool.false_eq_true, Option.isNone_none, true_and, and_true, and_self, get_push, isNonD, Bool.not_true, Bool.not_false, cs_from_first, cs_own, cs_others, cs_spare, cs_locks, cs_closed]
  refine ⟨by decide, ?_⟩
  have hj : j < 6 := by omega
  rcases j with _ | _ | _ | _ | _ | _ | j
  · exact (WO_some).mpr (q _ _ .push)
  · exact (WO_some).mpr (q _ _ .push)
  · exact (WO_some).mpr (q _ _ .push)
  · exact (WO_some).mpr (q _ _ .push)
  · exact (WO_some).mpr (q _ _ .push)
  · exact (WO_some).mpr (q _ _ .push)
  · omega
theorem pick_law {n : Nat} {xs : List D} (e : h[n]? = some (.lst xs)) (hn : n ≠ 1) (hx : 0 < xs.length) (hd : Dk h) (q : ∀ i (hi : i < xs.length) h', Fr [] h h' → Dk h' → Q xs[i] h') : W (F__law_pick [.ref 1, .ref n]) h Q := by
  unfold F__law_pick B__law_pick
  refine w_run rfl ?_
  simp (maxDischargeDepth := 9) only [W_seq, W_asg, W_set, W_V, WV_some, W_C, W_op, W_cmpT, W_isB, W_un, W_tru, W_andT, W_orT, W_notT, W_andV, W_orV, W_notV, W_ife, W_nil, W_cons, W_tup, W_lst, W_addI, W_subI, W_iaddI, W_negI, W_mulI, W_fdivI, W_modI, W_powI, W_cmpI, W_isB_bl, W_isNB, W_isN, W_isntB, W_isntN, W_eqI, W_neI, W_pass, W_brk, W_cont, W_drop, W_rt, W_rtN, W_ifS, W_gsNil, W_gsCons, W_gTup, W_aug, W_call, W_B, RtN_rt, RtN_nx, W_abs, W_intI, W_intB, W_noPart, W_part, W_sl, W_lm, W_lm0, W_iter, W_range1, W_range2, W_forE, W_revE, W_compE, W_yes, W_lenT, W_truB, W_truI, List.append_nil, List.getElem?_cons_zero, List.getElem?_cons_succ, List.set_cons_zero, List.set_cons_succ, List.getElem?_set_self, List.getElem?_set_ne, lt_set, ne_eq, Nat.reduceEqDiff, not_false_eq_true, Nat.reduceLT, Nat.zero_ne_one, Nat.one_ne_zero, Nat.lt_add_one, Nat.zero_lt_succ, startD, List.map_cons, List.map_nil, List.length_cons, List.length_nil, List.cons_append, List.nil_append, Nat.reduceAdd, Nat.reduceSub, Nat.zero_add, List.replicate_succ, List.replicate_zero, W_inSC, List.all_cons, List.all_nil, flatD, List.any_cons, List.any_nil, eqF, Bool.and_true, Bool.or_false, Bool.or_true, Bool.true_or, Bool.false_or, Bool.true_and, Bool.false_and, Option.some.injEq, D.int.injEq, exists_eq_left', exists_eq_left, W_listT, List.set_set, lt_push, len_lt, List.getElem?_append_left, W_fldC, W_setFC, W_clsC, W_methC, W_lenC, W_ixC, W_ixTO, W_isLstC, W_appC, W_listC, W_tupC, W_truC, W_slC, W_slTT, W_addTT, W_addC, W_setIC, W_getIC, W_delC, W_isDctC, W_dgetC, W_dictC, W_dict0, W_eqS, W_neS, W_eqB, W_neB, W_meth, W_make, W_setF, W_augF, W_callK, W_chain, W_chainT, W_del, W_gSub, W_augI, W_get1, W_srcC, WCell_some, WO_some, at0, at1, at2, at3, at4, at5, ix0, ix1, at_nat, memS, lookF, putFD, String.reduceEq, String.reduceBEq, if_true, if_false, Bool.false_eq_true, Option.isNone_none, true_and, and_true, and_self, get_push, isNonD, Bool.not_true, Bool.not_false, cs_from_first, cs_own, cs_others, cs_spare, cs_locks, cs_closed, e]
  refine take_law hd (by omega) fun v h1 v0 v1 F1 hd1 => ?_
  have e1 := F1.keep e (by simp) hn
  obtain ⟨j, rfl⟩ := Int.eq_ofNat_of_zero_le v0
  have hj : j < xs.length := by omega
  simp (maxDischargeDepth := 9) only [W_seq, W_asg, W_set, W_V, WV_some, W_C, W_op, W_cmpT, W_isB, W_un, W_tru, W_andT, W_orT, W_notT, W_andV, W_orV, W_notV, W_ife, W_nil, W_cons, W_tup, W_lst, W_addI, W_subI, W_iaddI, W_negI, W_mulI, W_fdivI, W_modI, W_powI, W_cmpI, W_isB_bl, W_isNB, W_isN, W_isntB, W_isntN, W_eqI, W_neI, W_pass, W_brk, W_cont, W_drop, W_rt, W_rtN, W_ifS, W_gsNil, W_gsCons, W_gTup, W_aug, W_call, W_B, RtN_rt, RtN_nx, W_abs, W_intI, W_intB, W_noPart, W_part, W_sl, W_lm, W_lm0, W_iter, W_range1, W_range2, W_forE, W_revE, W_compE, W_yes, W_lenT, W_truB, W_truI, List.append_nil, List.getElem?_cons_zero, List.getElem?_cons_succ, List.set_cons_zero, List.set_cons_succ, List.getElem?_set_self, List.getElem?_set_ne, lt_set, ne_eq, Nat.reduceEqDiff, not_false_eq_true, Nat.reduceLT, Nat.zero_ne_one, Nat.one_ne_zero, Nat.lt_add_one, Nat.zero_lt_succ, startD, List.map_cons, List.map_nil, List.length_cons, List.length_nil, List.cons_append, List.nil_append, Nat.reduceAdd, Nat.reduceSub, Nat.zero_add, List.replicate_succ, List.replicate_zero, W_inSC, List.all_cons, List.all_nil, flatD, List.any_cons, List.any_nil, eqF, Bool.and_true, Bool.or_false, Bool.or_true, Bool.true_or, Bool.false_or, Bool.true_and, Bool.false_and, Option.some.injEq, D.int.injEq, exists_eq_left', exists_eq_left, W_listT, List.set_set, lt_push, len_lt, List.getElem?_append_left, W_fldC, W_setFC, W_clsC, W_methC, W_lenC, W_ixC, W_ixTO, W_isLstC, W_appC, W_listC, W_tupC, W_truC, W_slC, W_slTT, W_addTT, W_addC, W_setIC, W_getIC, W_delC, W_isDctC, W_dgetC, W_dictC, W_dict0, W_eqS, W_neS, W_eqB, W_neB, W_meth, W_make, W_setF, W_augF, W_callK, W_chain, W_chainT, W_del, W_gSub, W_augI, W_get1, W_srcC, WCell_some, WO_some, at0, at1, at2, at3, at4, at5, ix0, ix1, at_nat, memS, lookF, putFD, String.reduceEq, String.reduceBEq, if_true, if_false, Bool.false_eq_true, Option.isNone_none, true_and, and_true, and_self, get_push, isNonD, Bool.not_true, Bool.not_false, cs_from_first, cs_own, cs_others, cs_spare, cs_locks, cs_closed, e1, List.getElem?_eq_getElem hj]
  exact q j hj h1 F1 hd1
theorem draw_move_law (hd : Dk h) (q : ∀ (m : Mv) h', Fr [] h h' → Dk h' → Q (mD m) h') : W (F__law_drawn_move [.ref 1]) h Q := by
  unfold F__law_drawn_move B__law_drawn_move
  refine w_run rfl ?_
  simp (maxDischargeDepth := 9) only [W_seq, W_asg, W_set, W_V, WV_some, W_C, W_op, W_cmpT, W_isB, W_un, W_tru, W_andT, W_orT, W_notT, W_andV, W_orV, W_notV, W_ife, W_nil, W_cons, W_tup, W_lst, W_addI, W_subI, W_iaddI, W_negI, W_mulI, W_fdivI, W_modI, W_powI, W_cmpI, W_isB_bl, W_isNB, W_isN, W_isntB, W_isntN, W_eqI, W_neI, W_pass, W_brk, W_cont, W_drop, W_rt, W_rtN, W_ifS, W_gsNil, W_gsCons, W_gTup, W_aug, W_call, W_B, RtN_rt, RtN_nx, W_abs, W_intI, W_intB, W_noPart, W_part, W_sl, W_lm, W_lm0, W_iter, W_range1, W_range2, W_forE, W_revE, W_compE, W_yes, W_lenT, W_truB, W_truI, List.append_nil, List.getElem?_cons_zero, List.getElem?_cons_succ, List.set_cons_zero, List.set_cons_succ, List.getElem?_set_self, List.getElem?_set_ne, lt_set, ne_eq, Nat.reduceEqDiff, not_false_eq_true, Nat.reduceLT, Nat.zero_ne_one, Nat.one_ne_zero, Nat.lt_add_one, Nat.zero_lt_succ, startD, List.map_cons, List.map_nil, List.length_cons, List.length_nil, List.cons_append, List.nil_append, Nat.reduceAdd, Nat.reduceSub, Nat.zero_add, List.replicate_succ, List.replicate_zero, W_inSC, List.all_cons, List.all_nil, flatD, List.any_cons, List.any_nil, eqF, Bool.and_true, Bool.or_false, Bool.or_true, Bool.true_or, Bool.false_or, Bool.true_and, Bool.false_and, Option.some.injEq, D.int.injEq, exists_eq_left', exists_eq_left, W_listT, List.set_set, lt_push, len_lt, List.getElem?_append_left, W_fldC, W_setFC, W_clsC, W_methC, W_lenC, W_ixC, W_ixTO, W_isLstC, W_appC, W_listC, W_tupC, W_truC, W_slC, W_slTT, W_addTT, W_addC, W_setIC, W_getIC, W_delC, W_isDctC, W_dgetC, W_dictC, W_dict0, W_eqS, W_neS, W_eqB, W_neB, W_meth, W_make, W_setF, W_augF, W_callK, W_chain, W_chainT, W_del, W_gSub, W_augI, W_get1, W_srcC, WCell_some, WO_some, at0, at1, at2, at3, at4, at5, ix0, ix1, at_nat, memS, lookF, putFD, String.reduceEq, String.reduceBEq, if_true, if_false, Bool.false_eq_true, Option.isNone_none, true_and, and_true, and_self, get_push, isNonD, Bool.not_true, Bool.not_false, cs_from_first, cs_own, cs_others, cs_spare, cs_locks, cs_closed]
  refine take_law hd (by decide) fun kd h1 k0 k1 F1 hd1 => ?_
  simp (maxDischargeDepth := 9) only [W_seq, W_asg, W_set, W_V, WV_some, W_C, W_op, W_cmpT, W_isB, W_un, W_tru, W_andT, W_orT, W_notT, W_andV, W_orV, W_notV, W_ife, W_nil, W_cons, W_tup, W_lst, W_addI, W_subI, W_iaddI, W_negI, W_mulI, W_fdivI, W_modI, W_powI, W_cmpI, W_isB_bl, W_isNB, W_isN, W_isntB, W_isntN, W_eqI, W_neI, W_pass, W_brk, W_cont, W_drop, W_rt, W_rtN, W_ifS, W_gsNil, W_gsCons, W_gTup, W_aug, W_call, W_B, RtN_rt, RtN_nx, W_abs, W_intI, W_intB, W_noPart, W_part, W_sl, W_lm, W_lm0, W_iter, W_range1, W_range2, W_forE, W_revE, W_compE, W_yes, W_lenT, W_truB, W_truI, List.append_nil, List.getElem?_cons_zero, List.getElem?_cons_succ, List.set_cons_zero, List.set_cons_succ, List.getElem?_set_self, List.getElem?_set_ne, lt_set, ne_eq, Nat.reduceEqDiff, not_false_eq_true, Nat.reduceLT, Nat.zero_ne_one, Nat.one_ne_zero, Nat.lt_add_one, Nat.zero_lt_succ, startD, List.map_cons, List.map_nil, List.length_cons, List.length_nil, List.cons_append, List.nil_append, Nat.reduceAdd, Nat.reduceSub, Nat.zero_add, List.replicate_succ, List.replicate_zero, W_inSC, List.all_cons, List.all_nil, flatD, List.any_cons, List.any_nil, eqF, Bool.and_true, Bool.or_false, Bool.or_true, Bool.true_or, Bool.false_or, Bool.true_and, Bool.false_and, Option.some.injEq, D.int.injEq, exists_eq_left', exists_eq_left, W_listT, List.set_set, lt_push, len_lt, List.getElem?_append_left, W_fldC, W_setFC, W_clsC, W_methC, W_lenC, W_ixC, W_ixTO, W_isLstC, W_appC, W_listC, W_tupC, W_truC, W_slC, W_slTT, W_addTT, W_addC, W_setIC, W_getIC, W_delC, W_isDctC, W_dgetC, W_dictC, W_dict0, W_eqS, W_neS, W_eqB, W_neB, W_meth, W_make, W_setF, W_augF, W_callK, W_chain, W_chainT, W_del, W_gSub, W_augI, W_get1, W_srcC, WCell_some, WO_some, at0, at1, at2, at3, at4, at5, ix0, ix1, at_nat, memS, lookF, putFD, String.reduceEq, String.reduceBEq, if_true, if_false, Bool.false_eq_true, Option.isNone_none, true_and, and_true, and_self, get_push, isNonD, Bool.not_true, Bool.not_false, cs_from_first, cs_own, cs_others, cs_spare, cs_locks, cs_closed]
  refine take_law hd1 (by decide) fun pl h2 p0 p1 F2 hd2 => ?_
  obtain ⟨p, rfl⟩ := Int.eq_ofNat_of_zero_le p0
  have F12 := F1.trans F2
  simp (maxDischargeDepth := 9) only [W_seq, W_asg, W_set, W_V, WV_some, W_C, W_op, W_cmpT, W_isB, W_un, W_tru, W_andT, W_orT, W_notT, W_andV, W_orV, W_notV, W_ife, W_nil, W_cons, W_tup, W_lst, W_addI, W_subI, W_iaddI, W_negI, W_mulI, W_fdivI, W_modI, W_powI, W_cmpI, W_isB_bl, W_isNB, W_isN, W_isntB, W_isntN, W_eqI, W_neI, W_pass, W_brk, W_cont, W_drop, W_rt, W_rtN, W_ifS, W_gsNil, W_gsCons, W_gTup, W_aug, W_call, W_B, RtN_rt, RtN_nx, W_abs, W_intI, W_intB, W_noPart, W_part, W_sl, W_lm, W_lm0, W_iter, W_range1, W_range2, W_forE, W_revE, W_compE, W_yes, W_lenT, W_truB, W_truI, List.append_nil, List.getElem?_cons_zero, List.getElem?_cons_succ, List.set_cons_zero, List.set_cons_succ, List.getElem?_set_self, List.getElem?_set_ne, lt_set, ne_eq, Nat.reduceEqDiff, not_false_eq_true, Nat.reduceLT, Nat.zero_ne_one, Nat.one_ne_zero, Nat.lt_add_one, Nat.zero_lt_succ, startD, List.map_cons, List.map_nil, List.length_cons, List.length_nil, List.cons_append, List.nil_append, Nat.reduceAdd, Nat.reduceSub, Nat.zero_add, List.replicate_succ, List.replicate_zero, W_inSC, List.all_cons, List.all_nil, flatD, List.any_cons, List.any_nil, eqF, Bool.and_true, Bool.or_false, Bool.or_true, Bool.true_or, Bool.false_or, Bool.true_and, Bool.false_and, Option.some.injEq, D.int.injEq, exists_eq_left', exists_eq_left, W_listT, List.set_set, lt_push, len_lt, List.getElem?_append_left, W_fldC, W_setFC, W_clsC, W_methC, W_lenC, W_ixC, W_ixTO, W_isLstC, W_appC, W_listC, W_tupC, W_truC, W_slC, W_slTT, W_addTT, W_addC, W_setIC, W_getIC, W_delC, W_isDctC, W_dgetC, W_dictC, W_dict0, W_eqS, W_neS, W_eqB, W_neB, W_meth, W_make, W_setF, W_augF, W_callK, W_chain, W_chainT, W_del, W_gSub, W_augI, W_get1, W_srcC, WCell_some, WO_some, at0, at1, at2, at3, at4, at5, ix0, ix1, at_nat, memS, lookF, putFD, String.reduceEq, String.reduceBEq, if_true, if_false, Bool.false_eq_true, Option.isNone_none, true_and, and_true, and_self, get_push, isNonD, Bool.not_true, Bool.not_false, cs_from_first, cs_own, cs_others, cs_spare, cs_locks, cs_closed]
  by_cases c1 : kd < 2
  · simp (maxDischargeDepth := 9) only [c1, decide_true, W_seq, W_asg, W_set, W_V, WV_some, W_C, W_op, W_cmpT, W_isB, W_un, W_tru, W_andT, W_orT, W_notT, W_andV, W_orV, W_notV, W_ife, W_nil, W_cons, W_tup, W_lst, W_addI, W_subI, W_iaddI, W_negI, W_mulI, W_fdivI, W_modI, W_powI, W_cmpI, W_isB_bl, W_isNB, W_isN, W_isntB, W_isntN, W_eqI, W_neI, W_pass, W_brk, W_cont, W_drop, W_rt, W_rtN, W_ifS, W_gsNil, W_gsCons, W_gTup, W_aug, W_call, W_B, RtN_rt, RtN_nx, W_abs, W_intI, W_intB, W_noPart, W_part, W_sl, W_lm, W_lm0, W_iter, W_range1, W_range2, W_forE, W_revE, W_compE, W_yes, W_lenT, W_truB, W_truI, List.append_nil, List.getElem?_cons_zero, List.getElem?_cons_succ, List.set_cons_zero, List.set_cons_succ, List.getElem?_set_self, List.getElem?_set_ne, lt_set, ne_eq, Nat.reduceEqDiff, not_false_eq_true, Nat.reduceLT, Nat.zero_ne_one, Nat.one_ne_zero, Nat.lt_add_one, Nat.zero_lt_succ, startD, List.map_cons, List.map_nil, List.length_cons, List.length_nil, List.cons_append, List.nil_append, Nat.reduceAdd, Nat.reduceSub, Nat.zero_add, List.replicate_succ, List.replicate_zero, W_inSC, List.all_cons, List.all_nil, flatD, List.any_cons, List.any_nil, eqF, Bool.and_true, Bool.or_false, Bool.or_true, Bool.true_or, Bool.false_or, Bool.true_and, Bool.false_and, Option.some.injEq, D.int.injEq, exists_eq_left', exists_eq_left, W_listT, List.set_set, lt_push, len_lt, List.getElem?_append_left, W_fldC, W_setFC, W_clsC, W_methC, W_lenC, W_ixC, W_ixTO, W_isLstC, W_appC, W_listC, W_tupC, W_truC, W_slC, W_slTT, W_addTT, W_addC, W_setIC, W_getIC, W_delC, W_isDctC, W_dgetC, W_dictC, W_dict0, W_eqS, W_neS, W_eqB, W_neB, W_meth, W_make, W_setF, W_augF, W_callK, W_chain, W_chainT, W_del, W_gSub, W_augI, W_get1, W_srcC, WCell_some, WO_some, at0, at1, at2, at3, at4, at5, ix0, ix1, at_nat, memS, lookF, putFD, String.reduceEq, String.reduceBEq, if_true, if_false, Bool.false_eq_true, Option.isNone_none, true_and, and_true, and_self, get_push, isNonD, Bool.not_true, Bool.not_false, cs_from_first, cs_own, cs_others, cs_spare, cs_locks, cs_closed]
    refine take_law hd2 (by decide) fun v h3 v0 v1 F3 hd3 => ?_
    simp (maxDischargeDepth := 9) only [W_seq, W_asg, W_set, W_V, WV_some, W_C, W_op, W_cmpT, W_isB, W_un, W_tru, W_andT, W_orT, W_notT, W_andV, W_orV, W_notV, W_ife, W_nil, W_cons, W_tup, W_lst, W_addI, W_subI, W_iaddI, W_negI, W_mulI, W_fdivI, W_modI, W_powI, W_cmpI, W_isB_bl, W_isNB, W_isN, W_isntB, W_isntN, W_eqI, W_neI, W_pass, W_brk, W_cont, W_drop, W_rt, W_rtN, W_ifS, W_gsNil, W_gsCons, W_gTup, W_aug, W_call, W_B, RtN_rt, RtN_nx, W_abs, W_intI, W_intB, W_noPart, W_part, W_sl, W_lm, W_lm0, W_iter, W_range1, W_range2, W_forE, W_revE, W_compE, W_yes, W_lenT, W_truB, W_truI, List.append_nil, List.getElem?_cons_zero, List.getElem?_cons_succ, List.set_cons_zero, List.set_cons_succ, List.getElem?_set_self, List.getElem?_set_ne, lt_set, ne_eq, Nat.reduceEqDiff, not_false_eq_true, Nat.reduceLT, Nat.zero_ne_one, Nat.one_ne_zero, Nat.lt_add_one, Nat.zero_lt_succ, startD, List.map_cons, List.map_nil, List.length_cons, List.length_nil, List.cons_append, List.nil_append, Nat.reduceAdd, Nat.reduceSub, Nat.zero_add, List.replicate_succ, List.replicate_zero, W_inSC, List.all_cons, List.all_nil, flatD, List.any_cons, List.any_nil, eqF, Bool.and_true, Bool.or_false, Bool.or_true, Bool.true_or, Bool.false_or, Bool.true_and, Bool.false_and, Option.some.injEq, D.int.injEq, exists_eq_left', exists_eq_left, W_listT, List.set_set, lt_push, len_lt, List.getElem?_append_left, W_fldC, W_setFC, W_clsC, W_methC, W_lenC, W_ixC, W_ixTO, W_isLstC, W_appC, W_listC, W_tupC, W_truC, W_slC, W_slTT, W_addTT, W_addC, W_setIC, W_getIC, W_delC, W_isDctC, W_dgetC, W_dictC, W_dict0, W_eqS, W_neS, W_eqB, W_neB, W_meth, W_make, W_setF, W_augF, W_callK, W_chain, W_chainT, W_del, W_gSub, W_augI, W_get1, W_srcC, WCell_some, WO_some, at0, at1, at2, at3, at4, at5, ix0, ix1, at_nat, memS, lookF, putFD, String.reduceEq, String.reduceBEq, if_true, if_false, Bool.false_eq_true, Option.isNone_none, true_and, and_true, and_self, get_push, isNonD, Bool.not_true, Bool.not_false, cs_from_first, cs_own, cs_others, cs_spare, cs_locks, cs_closed]
    refine secret_law v0 v1 fun sc h4 F4 => ?_
    simp (maxDischargeDepth := 9) only [W_seq, W_asg, W_set, W_V, WV_some, W_C, W_op, W_cmpT, W_isB, W_un, W_tru, W_andT, W_orT, W_notT, W_andV, W_orV, W_notV, W_ife, W_nil, W_cons, W_tup, W_lst, W_addI, W_subI, W_iaddI, W_negI, W_mulI, W_fdivI, W_modI, W_powI, W_cmpI, W_isB_bl, W_isNB, W_isN, W_isntB, W_isntN, W_eqI, W_neI, W_pass, W_brk, W_cont, W_drop, W_rt, W_rtN, W_ifS, W_gsNil, W_gsCons, W_gTup, W_aug, W_call, W_B, RtN_rt, RtN_nx, W_abs, W_intI, W_intB, W_noPart, W_part, W_sl, W_lm, W_lm0, W_iter, W_range1, W_range2, W_forE, W_revE, W_compE, W_yes, W_lenT, W_truB, W_truI, List.append_nil, List.getElem?_cons_zero, List.getElem?_cons_succ, List.set_cons_zero, List.set_cons_succ, List.getElem?_set_self, List.getElem?_set_ne, lt_set, ne_eq, Nat.reduceEqDiff, not_false_eq_true, Nat.reduceLT, Nat.zero_ne_one, Nat.one_ne_zero, Nat.lt_add_one, Nat.zero_lt_succ, startD, List.map_cons, List.map_nil, List.length_cons, List.length_nil, List.cons_append, List.nil_append, Nat.reduceAdd, Nat.reduceSub, Nat.zero_add, List.replicate_succ, List.replicate_zero, W_inSC, List.all_cons, List.all_nil, flatD, List.any_cons, List.any_nil, eqF, Bool.and_true, Bool.or_false, Bool.or_true, Bool.true_or, Bool.false_or, Bool.true_and, Bool.false_and, Option.some.injEq, D.int.injEq, exists_eq_left', exists_eq_left, W_listT, List.set_set, lt_push, len_lt, List.getElem?_append_left, W_fldC, W_setFC, W_clsC, W_methC, W_lenC, W_ixC, W_ixTO, W_isLstC, W_appC, W_listC, W_tupC, W_truC, W_slC, W_slTT, W_addTT, W_addC, W_setIC, W_getIC, W_delC, W_isDctC, W_dgetC, W_dictC, W_dict0, W_eqS, W_neS, W_eqB, W_neB, W_meth, W_make, W_setF, W_augF, W_callK, W_chain, W_chainT, W_del, W_gSub, W_augI, W_get1, W_srcC, WCell_some, WO_some, at0, at1, at2, at3, at4, at5, ix0, ix1, at_nat, memS, lookF, putFD, String.reduceEq, String.reduceBEq, if_true, if_false, Bool.false_eq_true, Option.isNone_none, true_and, and_true, and_self, get_push, isNonD, Bool.not_true, Bool.not_false, cs_from_first, cs_own, cs_others, cs_spare, cs_locks, cs_closed]
    refine lkey_law ?_
    simp (maxDischargeDepth := 9) only [W_seq, W_asg, W_set, W_V, WV_some, W_C, W_op, W_cmpT, W_isB, W_un, W_tru, W_andT, W_orT, W_notT, W_andV, W_orV, W_notV, W_ife, W_nil, W_cons, W_tup, W_lst, W_addI, W_subI, W_iaddI, W_negI, W_mulI, W_fdivI, W_modI, W_powI, W_cmpI, W_isB_bl, W_isNB, W_isN, W_isntB, W_isntN, W_eqI, W_neI, W_pass, W_brk, W_cont, W_drop, W_rt, W_rtN, W_ifS, W_gsNil, W_gsCons, W_gTup, W_aug, W_call, W_B, RtN_rt, RtN_nx, W_abs, W_intI, W_intB, W_noPart, W_part, W_sl, W_lm, W_lm0, W_iter, W_range1, W_range2, W_forE, W_revE, W_compE, W_yes, W_lenT, W_truB, W_truI, List.append_nil, List.getElem?_cons_zero, List.getElem?_cons_succ, List.set_cons_zero, List.set_cons_succ, List.getElem?_set_self, List.getElem?_set_ne, lt_set, ne_eq, Nat.reduceEqDiff, not_false_eq_true, Nat.reduceLT, Nat.zero_ne_one, Nat.one_ne_zero, Nat.lt_add_one, Nat.zero_lt_succ, startD, List.map_cons, List.map_nil, List.length_cons, List.length_nil, List.cons_append, List.nil_append, Nat.reduceAdd, Nat.reduceSub, Nat.zero_add, List.replicate_succ, List.replicate_zero, W_inSC, List.all_cons, List.all_nil, flatD, List.any_cons, List.any_nil, eqF, Bool.and_true, Bool.or_false, Bool.or_true, Bool.true_or, Bool.false_or, Bool.true_and, Bool.false_and, Option.some.injEq, D.int.injEq, exists_eq_left', exists_eq_left, W_listT, List.set_set, lt_push, len_lt, List.getElem?_append_left, W_fldC, W_setFC, W_clsC, W_methC, W_lenC, W_ixC, W_ixTO, W_isLstC, W_appC, W_listC, W_tupC, W_truC, W_slC, W_slTT, W_addTT, W_addC, W_setIC, W_getIC, W_delC, W_isDctC, W_dgetC, W_dictC, W_dict0, W_eqS, W_neS, W_eqB, W_neB, W_meth, W_make, W_setF, W_augF, W_callK, W_chain, W_chainT, W_del, W_gSub, W_augI, W_get1, W_srcC, WCell_some, WO_some, at0, at1, at2, at3, at4, at5, ix0, ix1, at_nat, memS, lookF, putFD, String.reduceEq, String.reduceBEq, if_true, if_false, Bool.false_eq_true, Option.isNone_none, true_and, and_true, and_self, get_push, isNonD, Bool.not_true, Bool.not_false, cs_from_first, cs_own, cs_others, cs_spare, cs_locks, cs_closed]
    refine take_law (F4.dk hd3) (by decide) fun a h5 a0 a1 F5 hd5 => ?_
    simp (maxDischargeDepth := 9) only [W_seq, W_asg, W_set, W_V, WV_some, W_C, W_op, W_cmpT, W_isB, W_un, W_tru, W_andT, W_orT, W_notT, W_andV, W_orV, W_notV, W_ife, W_nil, W_cons, W_tup, W_lst, W_addI, W_subI, W_iaddI, W_negI, W_mulI, W_fdivI, W_modI, W_powI, W_cmpI, W_isB_bl, W_isNB, W_isN, W_isntB, W_isntN, W_eqI, W_neI, W_pass, W_brk, W_cont, W_drop, W_rt, W_rtN, W_ifS, W_gsNil, W_gsCons, W_gTup, W_aug, W_call, W_B, RtN_rt, RtN_nx, W_abs, W_intI, W_intB, W_noPart, W_part, W_sl, W_lm, W_lm0, W_iter, W_range1, W_range2, W_forE, W_revE, W_compE, W_yes, W_lenT, W_truB, W_truI, List.append_nil, List.getElem?_cons_zero, List.getElem?_cons_succ, List.set_cons_zero, List.set_cons_succ, List.getElem?_set_self, List.getElem?_set_ne, lt_set, ne_eq, Nat.reduceEqDiff, not_false_eq_true, Nat.reduceLT, Nat.zero_ne_one, Nat.one_ne_zero, Nat.lt_add_one, Nat.zero_lt_succ, startD, List.map_cons, List.map_nil, List.length_cons, List.length_nil, List.cons_append, List.nil_append, Nat.reduceAdd, Nat.reduceSub, Nat.zero_add, List.replicate_succ, List.replicate_zero, W_inSC, List.all_cons, List.all_nil, flatD, List.any_cons, List.any_nil, eqF, Bool.and_true, Bool.or_false, Bool.or_true, Bool.true_or, Bool.false_or, Bool.true_and, Bool.false_and, Option.some.injEq, D.int.injEq, exists_eq_left', exists_eq_left, W_listT, List.set_set, lt_push, len_lt, List.getElem?_append_left, W_fldC, W_setFC, W_clsC, W_methC, W_lenC, W_ixC, W_ixTO, W_isLstC, W_appC, W_listC, W_tupC, W_truC, W_slC, W_slTT, W_addTT, W_addC, W_setIC, W_getIC, W_delC, W_isDctC, W_dgetC, W_dictC, W_dict0, W_eqS, W_neS, W_eqB, W_neB, W_meth, W_make, W_setF, W_augF, W_callK, W_chain, W_chainT, W_del, W_gSub, W_augI, W_get1, W_srcC, WCell_some, WO_some, at0, at1, at2, at3, at4, at5, ix0, ix1, at_nat, memS, lookF, putFD, String.reduceEq, String.reduceBEq, if_true, if_false, Bool.false_eq_true, Option.isNone_none, true_and, and_true, and_self, get_push, isNonD, Bool.not_true, Bool.not_false, cs_from_first, cs_own, cs_others, cs_spare, cs_locks, cs_closed]
    refine take_law hd5 (by decide) fun b h6 b0 b1 F6 hd6 => ?_
    simp (maxDischargeDepth := 9) only [W_seq, W_asg, W_set, W_V, WV_some, W_C, W_op, W_cmpT, W_isB, W_un, W_tru, W_andT, W_orT, W_notT, W_andV, W_orV, W_notV, W_ife, W_nil, W_cons, W_tup, W_lst, W_addI, W_subI, W_iaddI, W_negI, W_mulI, W_fdivI, W_modI, W_powI, W_cmpI, W_isB_bl, W_isNB, W_isN, W_isntB, W_isntN, W_eqI, W_neI, W_pass, W_brk, W_cont, W_drop, W_rt, W_rtN, W_ifS, W_gsNil, W_gsCons, W_gTup, W_aug, W_call, W_B, RtN_rt, RtN_nx, W_abs, W_intI, W_intB, W_noPart, W_part, W_sl, W_lm, W_lm0, W_iter, W_range1, W_range2, W_forE, W_revE, W_compE, W_yes, W_lenT, W_truB, W_truI, List.append_nil, List.getElem?_cons_zero, List.getElem?_cons_succ, List.set_cons_zero, List.set_cons_succ, List.getElem?_set_self, List.getElem?_set_ne, lt_set, ne_eq, Nat.reduceEqDiff, not_false_eq_true, Nat.reduceLT, Nat.zero_ne_one, Nat.one_ne_zero, Nat.lt_add_one, Nat.zero_lt_succ, startD, List.map_cons, List.map_nil, List.length_cons, List.length_nil, List.cons_append, List.nil_append, Nat.reduceAdd, Nat.reduceSub, Nat.zero_add, List.replicate_succ, List.replicate_zero, W_inSC, List.all_cons, List.all_nil, flatD, List.any_cons, List.any_nil, eqF, Bool.and_true, Bool.or_false, Bool.or_true, Bool.true_or, Bool.false_or, Bool.true_and, Bool.false_and, Option.some.injEq, D.int.injEq, exists_eq_left', exists_eq_left, W_listT, List.set_set, lt_push, len_lt, List.getElem?_append_left, W_fldC, W_setFC, W_clsC, W_methC, W_lenC, W_ixC, W_ixTO, W_isLstC, W_appC, W_listC, W_tupC, W_truC, W_slC, W_slTT, W_addTT, W_addC, W_setIC, W_getIC, W_delC, W_isDctC, W_dgetC, W_dictC, W_dict0, W_eqS, W_neS, W_eqB, W_neB, W_meth, W_make, W_setF, W_augF, W_callK, W_chain, W_chainT, W_del, W_gSub, W_augI, W_get1, W_srcC, WCell_some, WO_some, at0, at1, at2, at3, at4, at5, ix0, ix1, at_nat, memS, lookF, putFD, String.reduceEq, String.reduceBEq, if_true, if_false, Bool.false_eq_true, Option.isNone_none, true_and, and_true, and_self, get_push, isNonD, Bool.not_true, Bool.not_false, cs_from_first, cs_own, cs_others, cs_spare, cs_locks, cs_closed]
    exact ⟨by decide, q (.lock (keyP sc) a b) _ ((((F12.trans F3).trans F4).trans F5).trans F6) hd6⟩
  · simp (maxDischargeDepth := 9) only [c1, decide_false, W_seq, W_asg, W_set, W_V, WV_some, W_C, W_op, W_cmpT, W_isB, W_un, W_tru, W_andT, W_orT, W_notT, W_andV, W_orV, W_notV, W_ife, W_nil, W_cons, W_tup, W_lst, W_addI, W_subI, W_iaddI, W_negI, W_mulI, W_fdivI, W_modI, W_powI, W_cmpI, W_isB_bl, W_isNB, W_isN, W_isntB, W_isntN, W_eqI, W_neI, W_pass, W_brk, W_cont, W_drop, W_rt, W_rtN, W_ifS, W_gsNil, W_gsCons, W_gTup, W_aug, W_call, W_B, RtN_rt, RtN_nx, W_abs, W_intI, W_intB, W_noPart, W_part, W_sl, W_lm, W_lm0, W_iter, W_range1, W_range2, W_forE, W_revE, W_compE, W_yes, W_lenT, W_truB, W_truI, List.append_nil, List.getElem?_cons_zero, List.getElem?_cons_succ, List.set_cons_zero, List.set_cons_succ, List.getElem?_set_self, List.getElem?_set_ne, lt_set, ne_eq, Nat.reduceEqDiff, not_false_eq_true, Nat.reduceLT, Nat.zero_ne_one, Nat.one_ne_zero, Nat.lt_add_one, Nat.zero_lt_succ, startD, List.map_cons, List.map_nil, List.length_cons, List.length_nil, List.cons_append, List.nil_append, Nat.reduceAdd, Nat.reduceSub, Nat.zero_add, List.replicate_succ, List.replicate_zero, W_inSC, List.all_cons, List.all_nil, flatD, List.any_cons, List.any_nil, eqF, Bool.and_true, Bool.or_false, Bool.or_true, Bool.true_or, Bool.false_or, Bool.true_and, Bool.false_and, Option.some.injEq, D.int.injEq, exists_eq_left', exists_eq_left, W_listT, List.set_set, lt_push, len_lt, List.getElem?_append_left, W_fldC, W_setFC, W_clsC, W_methC, W_lenC, W_ixC, W_ixTO, W_isLstC, W_appC, W_listC, W_tupC, W_truC, W_slC, W_slTT, W_addTT, W_addC, W_setIC, W_getIC, W_delC, W_isDctC, W_dgetC, W_dictC, W_dict0, W_eqS, W_neS, W_eqB, W_neB, W_meth, W_make, W_setF, W_augF, W_callK, W_chain, W_chainT, W_del, W_gSub, W_augI, W_get1, W_srcC, WCell_some, WO_some, at0, at1, at2, at3, at4, at5, ix0, ix1, at_nat, memS, lookF, putFD, String.reduceEq, String.reduceBEq, if_true, if_false, Bool.false_eq_true, Option.isNone_none, true_and, and_true, and_self, get_push, isNonD, Bool.not_true, Bool.not_false, cs_from_first, cs_own, cs_others, cs_spare, cs_locks, cs_closed]
    by_cases c2 : kd = 2
    · subst c2
      simp (maxDischargeDepth := 9) only [show ((2 : Int) == 2) = true from rfl, W_seq, W_asg, W_set, W_V, WV_some, W_C, W_op, W_cmpT, W_isB, W_un, W_tru, W_andT, W_orT, W_notT, W_andV, W_orV, W_notV, W_ife, W_nil, W_cons, W_tup, W_lst, W_addI, W_subI, W_iaddI, W_negI, W_mulI, W_fdivI, W_modI, W_powI, W_cmpI, W_isB_bl, W_isNB, W_isN, W_isntB, W_isntN, W_eqI, W_neI, W_pass, W_brk, W_cont, W_drop, W_rt, W_rtN, W_ifS, W_gsNil, W_gsCons, W_gTup, W_aug, W_call, W_B, RtN_rt, RtN_nx, W_abs, W_intI, W_intB, W_noPart, W_part, W_sl, W_lm, W_lm0, W_iter, W_range1, W_range2, W_forE, W_revE, W_compE, W_yes, W_lenT, W_truB, W_truI, List.append_nil, List.getElem?_cons_zero, List.getElem?_cons_succ, List.set_cons_zero, List.set_cons_succ, List.getElem?_set_self, List.getElem?_set_ne, lt_set, ne_eq, Nat.reduceEqDiff, not_false_eq_true, Nat.reduceLT, Nat.zero_ne_one, Nat.one_ne_zero, Nat.lt_add_one, Nat.zero_lt_succ, startD, List.map_cons, List.map_nil, List.length_cons, List.length_nil, List.cons_append, List.nil_append, Nat.reduceAdd, Nat.reduceSub, Nat.zero_add, List.replicate_succ, List.replicate_zero, W_inSC, List.all_cons, List.all_nil, flatD, List.any_cons, List.any_nil, eqF, Bool.and_true, Bool.or_false, Bool.or_true, Bool.true_or, Bool.false_or, Bool.true_and, Bool.false_and, Option.some.injEq, D.int.injEq, exists_eq_left', exists_eq_left, W_listT, List.set_set, lt_push, len_lt, List.getElem?_append_left, W_fldC, W_setFC, W_clsC, W_methC, W_lenC, W_ixC, W_ixTO, W_isLstC, W_appC, W_listC, W_tupC, W_truC, W_slC, W_slTT, W_addTT, W_addC, W_setIC, W_getIC, W_delC, W_isDctC, W_dgetC, W_dictC, W_dict0, W_eqS, W_neS, W_eqB, W_neB, W_meth, W_make, W_setF, W_augF, W_callK, W_chain, W_chainT, W_del, W_gSub, W_augI, W_get1, W_srcC, WCell_some, WO_some, at0, at1, at2, at3, at4, at5, ix0, ix1, at_nat, memS, lookF, putFD, String.reduceEq, String.reduceBEq, if_true, if_false, Bool.false_eq_true, Option.isNone_none, true_and, and_true, and_self, get_push, isNonD, Bool.not_true, Bool.not_false, cs_from_first, cs_own, cs_others, cs_spare, cs_locks, cs_closed]
      refine take_law hd2 (by decide) fun v h3 v0 v1 F3 hd3 => ?_
      simp (maxDischargeDepth := 9) only [W_seq, W_asg, W_set, W_V, WV_some, W_C, W_op, W_cmpT, W_isB, W_un, W_tru, W_andT, W_orT, W_notT, W_andV, W_orV, W_notV, W_ife, W_nil, W_cons, W_tup, W_lst, W_addI, W_subI, W_iaddI, W_negI, W_mulI, W_fdivI, W_modI, W_powI, W_cmpI, W_isB_bl, W_isNB, W_isN, W_isntB, W_isntN, W_eqI, W_neI, W_pass, W_brk, W_cont, W_drop, W_rt, W_rtN, W_ifS, W_gsNil, W_gsCons, W_gTup, W_aug, W_call, W_B, RtN_rt, RtN_nx, W_abs, W_intI, W_intB, W_noPart, W_part, W_sl, W_lm, W_lm0, W_iter, W_range1, W_range2, W_forE, W_revE, W_compE, W_yes, W_lenT, W_truB, W_truI, List.append_nil, List.getElem?_cons_zero, List.getElem?_cons_succ, List.set_cons_zero, List.set_cons_succ, List.getElem?_set_self, List.getElem?_set_ne, lt_set, ne_eq, Nat.reduceEqDiff, not_false_eq_true, Nat.reduceLT, Nat.zero_ne_one, Nat.one_ne_zero, Nat.lt_add_one, Nat.zero_lt_succ, startD, List.map_cons, List.map_nil, List.length_cons, List.length_nil, List.cons_append, List.nil_append, Nat.reduceAdd, Nat.reduceSub, Nat.zero_add, List.replicate_succ, List.replicate_zero, W_inSC, List.all_cons, List.all_nil, flatD, List.any_cons, List.any_nil, eqF, Bool.and_true, Bool.or_false, Bool.or_true, Bool.true_or, Bool.false_or, Bool.true_and, Bool.false_and, Option.some.injEq, D.int.injEq, exists_eq_left', exists_eq_left, W_listT, List.set_set, lt_push, len_lt, List.getElem?_append_left, W_fldC, W_setFC, W_clsC, W_methC, W_lenC, W_ixC, W_ixTO, W_isLstC, W_appC, W_listC, W_tupC, W_truC, W_slC, W_slTT, W_addTT, W_addC, W_setIC, W_getIC, W_delC, W_isDctC, W_dgetC, W_dictC, W_dict0, W_eqS, W_neS, W_eqB, W_neB, W_meth, W_make, W_setF, W_augF, W_callK, W_chain, W_chainT, W_del, W_gSub, W_augI, W_get1, W_srcC, WCell_some, WO_some, at0, at1, at2, at3, at4, at5, ix0, ix1, at_nat, memS, lookF, putFD, String.reduceEq, String.reduceBEq, if_true, if_false, Bool.false_eq_true, Option.isNone_none, true_and, and_true, and_self, get_push, isNonD, Bool.not_true, Bool.not_false, cs_from_first, cs_own, cs_others, cs_spare, cs_locks, cs_closed]
      refine secret_law v0 v1 fun sc h4 F4 => ?_
      simp (maxDischargeDepth := 9) only [W_seq, W_asg, W_set, W_V, WV_some, W_C, W_op, W_cmpT, W_isB, W_un, W_tru, W_andT, W_orT, W_notT, W_andV, W_orV, W_notV, W_ife, W_nil, W_cons, W_tup, W_lst, W_addI, W_subI, W_iaddI, W_negI, W_mulI, W_fdivI, W_modI, W_powI, W_cmpI, W_isB_bl, W_isNB, W_isN, W_isntB, W_isntN, W_eqI, W_neI, W_pass, W_brk, W_cont, W_drop, W_rt, W_rtN, W_ifS, W_gsNil, W_gsCons, W_gTup, W_aug, W_call, W_B, RtN_rt, RtN_nx, W_abs, W_intI, W_intB, W_noPart, W_part, W_sl, W_lm, W_lm0, W_iter, W_range1, W_range2, W_forE, W_revE, W_compE, W_yes, W_lenT, W_truB, W_truI, List.append_nil, List.getElem?_cons_zero, List.getElem?_cons_succ, List.set_cons_zero, List.set_cons_succ, List.getElem?_set_self, List.getElem?_set_ne, lt_set, ne_eq, Nat.reduceEqDiff, not_false_eq_true, Nat.reduceLT, Nat.zero_ne_one, Nat.one_ne_zero, Nat.lt_add_one, Nat.zero_lt_succ, startD, List.map_cons, List.map_nil, List.length_cons, List.length_nil, List.cons_append, List.nil_append, Nat.reduceAdd, Nat.reduceSub, Nat.zero_add, List.replicate_succ, List.replicate_zero, W_inSC, List.all_cons, List.all_nil, flatD, List.any_cons, List.any_nil, eqF, Bool.and_true, Bool.or_false, Bool.or_true, Bool.true_or, Bool.false_or, Bool.true_and, Bool.false_and, Option.some.injEq, D.int.injEq, exists_eq_left', exists_eq_left, W_listT, List.set_set, lt_push, len_lt, List.getElem?_append_left, W_fldC, W_setFC, W_clsC, W_methC, W_lenC, W_ixC, W_ixTO, W_isLstC, W_appC, W_listC, W_tupC, W_truC, W_slC, W_slTT, W_addTT, W_addC, W_setIC, W_getIC, W_delC, W_isDctC, W_dgetC, W_dictC, W_dict0, W_eqS, W_neS, W_eqB, W_neB, W_meth, W_make, W_setF, W_augF, W_callK, W_chain, W_chainT, W_del, W_gSub, W_augI, W_get1, W_srcC, WCell_some, WO_some, at0, at1, at2, at3, at4, at5, ix0, ix1, at_nat, memS, lookF, putFD, String.reduceEq, String.reduceBEq, if_true, if_false, Bool.false_eq_true, Option.isNone_none, true_and, and_true, and_self, get_push, isNonD, Bool.not_true, Bool.not_false, cs_from_first, cs_own, cs_others, cs_spare, cs_locks, cs_closed]
      exact ⟨by decide, q (.paid p sc) _ ((F12.trans F3).trans F4) (F4.dk hd3)⟩
    · have b2 : (kd == 2) = false := by simpa using c2
      simp (maxDischargeDepth := 9) only [b2, W_seq, W_asg, W_set, W_V, WV_some, W_C, W_op, W_cmpT, W_isB, W_un, W_tru, W_andT, W_orT, W_notT, W_andV, W_orV, W_notV, W_ife, W_nil, W_cons, W_tup, W_lst, W_addI, W_subI, W_iaddI, W_negI, W_mulI, W_fdivI, W_modI, W_powI, W_cmpI, W_isB_bl, W_isNB, W_isN, W_isntB, W_isntN, W_eqI, W_neI, W_pass, W_brk, W_cont, W_drop, W_rt, W_rtN, W_ifS, W_gsNil, W_gsCons, W_gTup, W_aug, W_call, W_B, RtN_rt, RtN_nx, W_abs, W_intI, W_intB, W_noPart, W_part, W_sl, W_lm, W_lm0, W_iter, W_range1, W_range2, W_forE, W_revE, W_compE, W_yes, W_lenT, W_truB, W_truI, List.append_nil, List.getElem?_cons_zero, List.getElem?_cons_succ, List.set_cons_zero, List.set_cons_succ, List.getElem?_set_self, List.getElem?_set_ne, lt_set, ne_eq, Nat.reduceEqDiff, not_false_eq_true, Nat.reduceLT, Nat.zero_ne_one, Nat.one_ne_zero, Nat.lt_add_one, Nat.zero_lt_succ, startD, List.map_cons, List.map_nil, List.length_cons, List.length_nil, List.cons_append, List.nil_append, Nat.reduceAdd, Nat.reduceSub, Nat.zero_add, List.replicate_succ, List.replicate_zero, W_inSC, List.all_cons, List.all_nil, flatD, List.any_cons, List.any_nil, eqF, Bool.and_true, Bool.or_false, Bool.or_true, Bool.true_or, Bool.false_or, Bool.true_and, Bool.false_and, Option.some.injEq, D.int.injEq, exists_eq_left', exists_eq_left, W_listT, List.set_set, lt_push, len_lt, List.getElem?_append_left, W_fldC, W_setFC, W_clsC, W_methC, W_lenC, W_ixC, W_ixTO, W_isLstC, W_appC, W_listC, W_tupC, W_truC, W_slC, W_slTT, W_addTT, W_addC, W_setIC, W_getIC, W_delC, W_isDctC, W_dgetC, W_dictC, W_dict0, W_eqS, W_neS, W_eqB, W_neB, W_meth, W_make, W_setF, W_augF, W_callK, W_chain, W_chainT, W_del, W_gSub, W_augI, W_get1, W_srcC, WCell_some, WO_some, at0, at1, at2, at3, at4, at5, ix0, ix1, at_nat, memS, lookF, putFD, String.reduceEq, String.reduceBEq, if_true, if_false, Bool.false_eq_true, Option.isNone_none, true_and, and_true, and_self, get_push, isNonD, Bool.not_true, Bool.not_false, cs_from_first, cs_own, cs_others, cs_spare, cs_locks, cs_closed]
      by_cases c3 : kd = 3
      · subst c3
        simp (maxDischargeDepth := 9) only [show ((3 : Int) == 3) = true from rfl, W_seq, W_asg, W_set, W_V, WV_some, W_C, W_op, W_cmpT, W_isB, W_un, W_tru, W_andT, W_orT, W_notT, W_andV, W_orV, W_notV, W_ife, W_nil, W_cons, W_tup, W_lst, W_addI, W_subI, W_iaddI, W_negI, W_mulI, W_fdivI, W_modI, W_powI, W_cmpI, W_isB_bl, W_isNB, W_isN, W_isntB, W_isntN, W_eqI, W_neI, W_pass, W_brk, W_cont, W_drop, W_rt, W_rtN, W_ifS, W_gsNil, W_gsCons, W_gTup, W_aug, W_call, W_B, RtN_rt, RtN_nx, W_abs, W_intI, W_intB, W_noPart, W_part, W_sl, W_lm, W_lm0, W_iter, W_range1, W_range2, W_forE, W_revE, W_compE, W_yes, W_lenT, W_truB, W_truI, List.append_nil, List.getElem?_cons_zero, List.getElem?_cons_succ, List.set_cons_zero, List.set_cons_succ, List.getElem?_set_self, List.getElem?_set_ne, lt_set, ne_eq, Nat.reduceEqDiff, not_false_eq_true, Nat.reduceLT, Nat.zero_ne_one, Nat.one_ne_zero, Nat.lt_add_one, Nat.zero_lt_succ, startD, List.map_cons, List.map_nil, List.length_cons, List.length_nil, List.cons_append, List.nil_append, Nat.reduceAdd, Nat.reduceSub, Nat.zero_add, List.replicate_succ, List.replicate_zero, W_inSC, List.all_cons, List.all_nil, flatD, List.any_cons, List.any_nil, eqF, Bool.and_true, Bool.or_false, Bool.or_true, Bool.true_or, Bool.false_or, Bool.true_and, Bool.false_and, Option.some.injEq, D.int.injEq, exists_eq_left', exists_eq_left, W_listT, List.set_set, lt_push, len_lt, List.getElem?_append_left, W_fldC, W_setFC, W_clsC, W_methC, W_lenC, W_ixC, W_ixTO, W_isLstC, W_appC, W_listC, W_tupC, W_truC, W_slC, W_slTT, W_addTT, W_addC, W_setIC, W_getIC, W_delC, W_isDctC, W_dgetC, W_dictC, W_dict0, W_eqS, W_neS, W_eqB, W_neB, W_meth, W_make, W_setF, W_augF, W_callK, W_chain, W_chainT, W_del, W_gSub, W_augI, W_get1, W_srcC, WCell_some, WO_some, at0, at1, at2, at3, at4, at5, ix0, ix1, at_nat, memS, lookF, putFD, String.reduceEq, String.reduceBEq, if_true, if_false, Bool.false_eq_true, Option.isNone_none, true_and, and_true, and_self, get_push, isNonD, Bool.not_true, Bool.not_false, cs_from_first, cs_own, cs_others, cs_spare, cs_locks, cs_closed]
        exact ⟨by decide, q (.dropped p) _ F12 hd2⟩
      · have b3 : (kd == 3) = false := by simpa using c3
        simp (maxDischargeDepth := 9) only [b3, W_seq, W_asg, W_set, W_V, WV_some, W_C, W_op, W_cmpT, W_isB, W_un, W_tru, W_andT, W_orT, W_notT, W_andV, W_orV, W_notV, W_ife, W_nil, W_cons, W_tup, W_lst, W_addI, W_subI, W_iaddI, W_negI, W_mulI, W_fdivI, W_modI, W_powI, W_cmpI, W_isB_bl, W_isNB, W_isN, W_isntB, W_isntN, W_eqI, W_neI, W_pass, W_brk, W_cont, W_drop, W_rt, W_rtN, W_ifS, W_gsNil, W_gsCons, W_gTup, W_aug, W_call, W_B, RtN_rt, RtN_nx, W_abs, W_intI, W_intB, W_noPart, W_part, W_sl, W_lm, W_lm0, W_iter, W_range1, W_range2, W_forE, W_revE, W_compE, W_yes, W_lenT, W_truB, W_truI, List.append_nil, List.getElem?_cons_zero, List.getElem?_cons_succ, List.set_cons_zero, List.set_cons_succ, List.getElem?_set_self, List.getElem?_set_ne, lt_set, ne_eq, Nat.reduceEqDiff, not_false_eq_true, Nat.reduceLT, Nat.zero_ne_one, Nat.one_ne_zero, Nat.lt_add_one, Nat.zero_lt_succ, startD, List.map_cons, List.map_nil, List.length_cons, List.length_nil, List.cons_append, List.nil_append, Nat.reduceAdd, Nat.reduceSub, Nat.zero_add, List.replicate_succ, List.replicate_zero, W_inSC, List.all_cons, List.all_nil, flatD, List.any_cons, List.any_nil, eqF, Bool.and_true, Bool.or_false, Bool.or_true, Bool.true_or, Bool.false_or, Bool.true_and, Bool.false_and, Option.some.injEq, D.int.injEq, exists_eq_left', exists_eq_left, W_listT, List.set_set, lt_push, len_lt, List.getElem?_append_left, W_fldC, W_setFC, W_clsC, W_methC, W_lenC, W_ixC, W_ixTO, W_isLstC, W_appC, W_listC, W_tupC, W_truC, W_slC, W_slTT, W_addTT, W_addC, W_setIC, W_getIC, W_delC, W_isDctC, W_dgetC, W_dictC, W_dict0, W_eqS, W_neS, W_eqB, W_neB, W_meth, W_make, W_setF, W_augF, W_callK, W_chain, W_chainT, W_del, W_gSub, W_augI, W_get1, W_srcC, WCell_some, WO_some, at0, at1, at2, at3, at4, at5, ix0, ix1, at_nat, memS, lookF, putFD, String.reduceEq, String.reduceBEq, if_true, if_false, Bool.false_eq_true, Option.isNone_none, true_and, and_true, and_self, get_push, isNonD, Bool.not_true, Bool.not_false, cs_from_first, cs_own, cs_others, cs_spare, cs_locks, cs_closed]
        by_cases c4 : kd = 4
        · subst c4
          simp (maxDischargeDepth := 9) only [show ((4 : Int) == 4) = true from rfl, W_seq, W_asg, W_set, W_V, WV_some, W_C, W_op, W_cmpT, W_isB, W_un, W_tru, W_andT, W_orT, W_notT, W_andV, W_orV, W_notV, W_ife, W_nil, W_cons, W_tup, W_lst, W_addI, W_subI, W_iaddI, W_negI, W_mulI, W_fdivI, W_modI, W_powI, W_cmpI, W_isB_bl, W_isNB, W_isN, W_isntB, W_isntN, W_eqI, W_neI, W_pass, W_brk, W_cont, W_drop, W_rt, W_rtN, W_ifS, W_gsNil, W_gsCons, W_gTup, W_aug, W_call, W_B, RtN_rt, RtN_nx, W_abs, W_intI, W_intB, W_noPart, W_part, W_sl, W_lm, W_lm0, W_iter, W_range1, W_range2, W_forE, W_revE, W_compE, W_yes, W_lenT, W_truB, W_truI, List.append_nil, List.getElem?_cons_zero, List.getElem?_cons_succ, List.set_cons_zero, List.set_cons_succ, List.getElem?_set_self, List.getElem?_set_ne, lt_set, ne_eq, Nat.reduceEqDiff, not_false_eq_true, Nat.reduceLT, Nat.zero_ne_one, Nat.one_ne_zero, Nat.lt_add_one, Nat.zero_lt_succ, startD, List.map_cons, List.map_nil, List.length_cons, List.length_nil, List.cons_append, List.nil_append, Nat.reduceAdd, Nat.reduceSub, Nat.zero_add, List.replicate_succ, List.replicate_zero, W_inSC, List.all_cons, List.all_nil, flatD, List.any_cons, List.any_nil, eqF, Bool.and_true, Bool.or_false, Bool.or_true, Bool.true_or, Bool.false_or, Bool.true_and, Bool.false_and, Option.some.injEq, D.int.injEq, exists_eq_left', exists_eq_left, W_listT, List.set_set, lt_push, len_lt, List.getElem?_append_left, W_fldC, W_setFC, W_clsC, W_methC, W_lenC, W_ixC, W_ixTO, W_isLstC, W_appC, W_listC, W_tupC, W_truC, W_slC, W_slTT, W_addTT, W_addC, W_setIC, W_getIC, W_delC, W_isDctC, W_dgetC, W_dictC, W_dict0, W_eqS, W_neS, W_eqB, W_neB, W_meth, W_make, W_setF, W_augF, W_callK, W_chain, W_chainT, W_del, W_gSub, W_augI, W_get1, W_srcC, WCell_some, WO_some, at0, at1, at2, at3, at4, at5, ix0, ix1, at_nat, memS, lookF, putFD, String.reduceEq, String.reduceBEq, if_true, if_false, Bool.false_eq_true, Option.isNone_none, true_and, and_true, and_self, get_push, isNonD, Bool.not_true, Bool.not_false, cs_from_first, cs_own, cs_others, cs_spare, cs_locks, cs_closed]
          exact ⟨by decide, q (.back p) _ F12 hd2⟩
        · have b4 : (kd == 4) = false := by simpa using c4
          simp (maxDischargeDepth := 9) only [b4, W_seq, W_asg, W_set, W_V, WV_some, W_C, W_op, W_cmpT, W_isB, W_un, W_tru, W_andT, W_orT, W_notT, W_andV, W_orV, W_notV, W_ife, W_nil, W_cons, W_tup, W_lst, W_addI, W_subI, W_iaddI, W_negI, W_mulI, W_fdivI, W_modI, W_powI, W_cmpI, W_isB_bl, W_isNB, W_isN, W_isntB, W_isntN, W_eqI, W_neI, W_pass, W_brk, W_cont, W_drop, W_rt, W_rtN, W_ifS, W_gsNil, W_gsCons, W_gTup, W_aug, W_call, W_B, RtN_rt, RtN_nx, W_abs, W_intI, W_intB, W_noPart, W_part, W_sl, W_lm, W_lm0, W_iter, W_range1, W_range2, W_forE, W_revE, W_compE, W_yes, W_lenT, W_truB, W_truI, List.append_nil, List.getElem?_cons_zero, List.getElem?_cons_succ, List.set_cons_zero, List.set_cons_succ, List.getElem?_set_self, List.getElem?_set_ne, lt_set, ne_eq, Nat.reduceEqDiff, not_false_eq_true, Nat.reduceLT, Nat.zero_ne_one, Nat.one_ne_zero, Nat.lt_add_one, Nat.zero_lt_succ, startD, List.map_cons, List.map_nil, List.length_cons, List.length_nil, List.cons_append, List.nil_append, Nat.reduceAdd, Nat.reduceSub, Nat.zero_add, List.replicate_succ, List.replicate_zero, W_inSC, List.all_cons, List.all_nil, flatD, List.any_cons, List.any_nil, eqF, Bool.and_true, Bool.or_false, Bool.or_true, Bool.true_or, Bool.false_or, Bool.true_and, Bool.false_and, Option.some.injEq, D.int.injEq, exists_eq_left', exists_eq_left, W_listT, List.set_set, lt_push, len_lt, List.getElem?_append_left, W_fldC, W_setFC, W_clsC, W_methC, W_lenC, W_ixC, W_ixTO, W_isLstC, W_appC, W_listC, W_tupC, W_truC, W_slC, W_slTT, W_addTT, W_addC, W_setIC, W_getIC, W_delC, W_isDctC, W_dgetC, W_dictC, W_dict0, W_eqS, W_neS, W_eqB, W_neB, W_meth, W_make, W_setF, W_augF, W_callK, W_chain, W_chainT, W_del, W_gSub, W_augI, W_get1, W_srcC, WCell_some, WO_some, at0, at1, at2, at3, at4, at5, ix0, ix1, at_nat, memS, lookF, putFD, String.reduceEq, String.reduceBEq, if_true, if_false, Bool.false_eq_true, Option.isNone_none, true_and, and_true, and_self, get_push, isNonD, Bool.not_true, Bool.not_false, cs_from_first, cs_own, cs_others, cs_spare, cs_locks, cs_closed]
          by_cases c5 : kd < 7
          · simp (maxDischargeDepth := 9) only [c5, decide_true, W_seq, W_asg, W_set, W_V, WV_some, W_C, W_op, W_cmpT, W_isB, W_un, W_tru, W_andT, W_orT, W_notT, W_andV, W_orV, W_notV, W_ife, W_nil, W_cons, W_tup, W_lst, W_addI, W_subI, W_iaddI, W_negI, W_mulI, W_fdivI, W_modI, W_powI, W_cmpI, W_isB_bl, W_isNB, W_isN, W_isntB, W_isntN, W_eqI, W_neI, W_pass, W_brk, W_cont, W_drop, W_rt, W_rtN, W_ifS, W_gsNil, W_gsCons, W_gTup, W_aug, W_call, W_B, RtN_rt, RtN_nx, W_abs, W_intI, W_intB, W_noPart, W_part, W_sl, W_lm, W_lm0, W_iter, W_range1, W_range2, W_forE, W_revE, W_compE, W_yes, W_lenT, W_truB, W_truI, List.append_nil, List.getElem?_cons_zero, List.getElem?_cons_succ, List.set_cons_zero, List.set_cons_succ, List.getElem?_set_self, List.getElem?_set_ne, lt_set, ne_eq, Nat.reduceEqDiff, not_false_eq_true, Nat.reduceLT, Nat.zero_ne_one, Nat.one_ne_zero, Nat.lt_add_one, Nat.zero_lt_succ, startD, List.map_cons, List.map_nil, List.length_cons, List.length_nil, List.cons_append, List.nil_append, Nat.reduceAdd, Nat.reduceSub, Nat.zero_add, List.replicate_succ, List.replicate_zero, W_inSC, List.all_cons, List.all_nil, flatD, List.any_cons, List.any_nil, eqF, Bool.and_true, Bool.or_false, Bool.or_true, Bool.true_or, Bool.false_or, Bool.true_and, Bool.false_and, Option.some.injEq, D.int.injEq, exists_eq_left', exists_eq_left, W_listT, List.set_set, lt_push, len_lt, List.getElem?_append_left, W_fldC, W_setFC, W_clsC, W_methC, W_lenC, W_ixC, W_ixTO, W_isLstC, W_appC, W_listC, W_tupC, W_truC, W_slC, W_slTT, W_addTT, W_addC, W_setIC, W_getIC, W_delC, W_isDctC, W_dgetC, W_dictC, W_dict0, W_eqS, W_neS, W_eqB, W_neB, W_meth, W_make, W_setF, W_augF, W_callK, W_chain, W_chainT, W_del, W_gSub, W_augI, W_get1, W_srcC, WCell_some, WO_some, at0, at1, at2, at3, at4, at5, ix0, ix1, at_nat, memS, lookF, putFD, String.reduceEq, String.reduceBEq, if_true, if_false, Bool.false_eq_true, Option.isNone_none, true_and, and_true, and_self, get_push, isNonD, Bool.not_true, Bool.not_false, cs_from_first, cs_own, cs_others, cs_spare, cs_locks, cs_closed]
            refine take_law hd2 (by decide) fun v h3 v0 v1 F3 hd3 => ?_
            simp (maxDischargeDepth := 9) only [W_seq, W_asg, W_set, W_V, WV_some, W_C, W_op, W_cmpT, W_isB, W_un, W_tru, W_andT, W_orT, W_notT, W_andV, W_orV, W_notV, W_ife, W_nil, W_cons, W_tup, W_lst, W_addI, W_subI, W_iaddI, W_negI, W_mulI, W_fdivI, W_modI, W_powI, W_cmpI, W_isB_bl, W_isNB, W_isN, W_isntB, W_isntN, W_eqI, W_neI, W_pass, W_brk, W_cont, W_drop, W_rt, W_rtN, W_ifS, W_gsNil, W_gsCons, W_gTup, W_aug, W_call, W_B, RtN_rt, RtN_nx, W_abs, W_intI, W_intB, W_noPart, W_part, W_sl, W_lm, W_lm0, W_iter, W_range1, W_range2, W_forE, W_revE, W_compE, W_yes, W_lenT, W_truB, W_truI, List.append_nil, List.getElem?_cons_zero, List.getElem?_cons_succ, List.set_cons_zero, List.set_cons_succ, List.getElem?_set_self, List.getElem?_set_ne, lt_set, ne_eq, Nat.reduceEqDiff, not_false_eq_true, Nat.reduceLT, Nat.zero_ne_one, Nat.one_ne_zero, Nat.lt_add_one, Nat.zero_lt_succ, startD, List.map_cons, List.map_nil, List.length_cons, List.length_nil, List.cons_append, List.nil_append, Nat.reduceAdd, Nat.reduceSub, Nat.zero_add, List.replicate_succ, List.replicate_zero, W_inSC, List.all_cons, List.all_nil, flatD, List.any_cons, List.any_nil, eqF, Bool.and_true, Bool.or_false, Bool.or_true, Bool.true_or, Bool.false_or, Bool.true_and, Bool.false_and, Option.some.injEq, D.int.injEq, exists_eq_left', exists_eq_left, W_listT, List.set_set, lt_push, len_lt, List.getElem?_append_left, W_fldC, W_setFC, W_clsC, W_methC, W_lenC, W_ixC, W_ixTO, W_isLstC, W_appC, W_listC, W_tupC, W_truC, W_slC, W_slTT, W_addTT, W_addC, W_setIC, W_getIC, W_delC, W_isDctC, W_dgetC, W_dictC, W_dict0, W_eqS, W_neS, W_eqB, W_neB, W_meth, W_make, W_setF, W_augF, W_callK, W_chain, W_chainT, W_del, W_gSub, W_augI, W_get1, W_srcC, WCell_some, WO_some, at0, at1, at2, at3, at4, at5, ix0, ix1, at_nat, memS, lookF, putFD, String.reduceEq, String.reduceBEq, if_true, if_false, Bool.false_eq_true, Option.isNone_none, true_and, and_true, and_self, get_push, isNonD, Bool.not_true, Bool.not_false, cs_from_first, cs_own, cs_others, cs_spare, cs_locks, cs_closed]
            exact ⟨by decide, q (.transfer v) _ (F12.trans F3) hd3⟩
          · simp (maxDischargeDepth := 9) only [c5, decide_false, W_seq, W_asg, W_set, W_V, WV_some, W_C, W_op, W_cmpT, W_isB, W_un, W_tru, W_andT, W_orT, W_notT, W_andV, W_orV, W_notV, W_ife, W_nil, W_cons, W_tup, W_lst, W_addI, W_subI, W_iaddI, W_negI, W_mulI, W_fdivI, W_modI, W_powI, W_cmpI, W_isB_bl, W_isNB, W_isN, W_isntB, W_isntN, W_eqI, W_neI, W_pass, W_brk, W_cont, W_drop, W_rt, W_rtN, W_ifS, W_gsNil, W_gsCons, W_gTup, W_aug, W_call, W_B, RtN_rt, RtN_nx, W_abs, W_intI, W_intB, W_noPart, W_part, W_sl, W_lm, W_lm0, W_iter, W_range1, W_range2, W_forE, W_revE, W_compE, W_yes, W_lenT, W_truB, W_truI, List.append_nil, List.getElem?_cons_zero, List.getElem?_cons_succ, List.set_cons_zero, List.set_cons_succ, List.getElem?_set_self, List.getElem?_set_ne, lt_set, ne_eq, Nat.reduceEqDiff, not_false_eq_true, Nat.reduceLT, Nat.zero_ne_one, Nat.one_ne_zero, Nat.lt_add_one, Nat.zero_lt_succ, startD, List.map_cons, List.map_nil, List.length_cons, List.length_nil, List.cons_append, List.nil_append, Nat.reduceAdd, Nat.reduceSub, Nat.zero_add, List.replicate_succ, List.replicate_zero, W_inSC, List.all_cons, List.all_nil, flatD, List.any_cons, List.any_nil, eqF, Bool.and_true, Bool.or_false, Bool.or_true, Bool.true_or, Bool.false_or, Bool.true_and, Bool.false_and, Option.some.injEq, D.int.injEq, exists_eq_left', exists_eq_left, W_listT, List.set_set, lt_push, len_lt, List.getElem?_append_left, W_fldC, W_setFC, W_clsC, W_methC, W_lenC, W_ixC, W_ixTO, W_isLstC, W_appC, W_listC, W_tupC, W_truC, W_slC, W_slTT, W_addTT, W_addC, W_setIC, W_getIC, W_delC, W_isDctC, W_dgetC, W_dictC, W_dict0, W_eqS, W_neS, W_eqB, W_neB, W_meth, W_make, W_setF, W_augF, W_callK, W_chain, W_chainT, W_del, W_gSub, W_augI, W_get1, W_srcC, WCell_some, WO_some, at0, at1, at2, at3, at4, at5, ix0, ix1, at_nat, memS, lookF, putFD, String.reduceEq, String.reduceBEq, if_true, if_false, Bool.false_eq_true, Option.isNone_none, true_and, and_true, and_self, get_push, isNonD, Bool.not_true, Bool.not_false, cs_from_first, cs_own, cs_others, cs_spare, cs_locks, cs_closed]
            exact ⟨by decide, q .finish _ F12 hd2⟩
end
end Lk00

set_option Elab.async false
set_option linter.all false
set_option autoImplicit false
set_option maxRecDepth 100000
set_option maxHeartbeats 4000000
namespace Lk00
open Dt PySem
section
variable {h : Hd} {Q : D → Hd → Prop}
theorem draw_state_law (hd : Dk h) (q : ∀ (s : Stt) h', s.locks.length ≤ 6 → s.cl = false → Fr [] h h' → Dk h' → Q (sD s) h') : W (F__law_drawn_state [.ref 1]) h Q := by
  unfold F__law_drawn_state B__law_drawn_state
  refine w_run rfl ?_
  have h1l := hd.lt
  simp (maxDischargeDepth := 9) only [W_seq, W_asg, W_set, W_V, WV_some, W_C, W_op, W_cmpT, W_isB, W_un, W_tru, W_andT, W_orT, W_notT, W_andV, W_orV, W_notV, W_ife, W_nil, W_cons, W_tup, W_lst, W_addI, W_subI, W_iaddI, W_negI, W_mulI, W_fdivI, W_modI, W_powI, W_cmpI, W_isB_bl, W_isNB, W_isN, W_isntB, W_isntN, W_eqI, W_neI, W_pass, W_brk, W_cont, W_drop, W_rt, W_rtN, W_ifS, W_gsNil, W_gsCons, W_gTup, W_aug, W_call, W_B, RtN_rt, RtN_nx, W_abs, W_intI, W_intB, W_noPart, W_part, W_sl, W_lm, W_lm0, W_iter, W_range1, W_range2, W_forE, W_revE, W_compE, W_yes, W_lenT, W_truB, W_truI, List.append_nil, List.getElem?_cons_zero, List.getElem?_cons_succ, List.set_cons_zero, List.set_cons_succ, List.getElem?_set_self, List.getElem?_set_ne, lt_set, ne_eq, Nat.reduceEqDiff, not_false_eq_true, Nat.reduceLT, Nat.zero_ne_one, Nat.one_ne_zero, Nat.lt_add_one, Nat.zero_lt_succ, startD, List.map_cons, List.map_nil, List.length_cons, List.length_nil, List.cons_append, List.nil_append, Nat.reduceAdd, Nat.reduceSub, Nat.zero_add, List.replicate_succ, List.replicate_zero, W_inSC, List.all_cons, List.all_nil, flatD, List.any_cons, List.any_nil, eqF, Bool.and_true, Bool.or_false, Bool.or_true, Bool.true_or, Bool.false_or, Bool.true_and, Bool.false_and, Option.some.injEq, D.int.injEq, exists_eq_left', exists_eq_left, W_listT, List.set_set, lt_push, len_lt, List.getElem?_append_left, W_fldC, W_setFC, W_clsC, W_methC, W_lenC, W_ixC, W_ixTO, W_isLstC, W_appC, W_listC, W_tupC, W_truC, W_slC, W_slTT, W_addTT, W_addC, W_setIC, W_getIC, W_delC, W_isDctC, W_dgetC, W_dictC, W_dict0, W_eqS, W_neS, W_eqB, W_neB, W_meth, W_make, W_setF, W_augF, W_callK, W_chain, W_chainT, W_del, W_gSub, W_augI, W_get1, W_srcC, WCell_some, WO_some, at0, at1, at2, at3, at4, at5, ix0, ix1, at_nat, memS, lookF, putFD, String.reduceEq, String.reduceBEq, if_true, if_false, Bool.false_eq_true, Option.isNone_none, true_and, and_true, and_self, get_push, isNonD, Bool.not_true, Bool.not_false, cs_from_first, cs_own, cs_others, cs_spare, cs_locks, cs_closed]
  refine ⟨by decide, ?_⟩
  refine take_law (Fr.push (S := []).dk hd) (by decide) fun n h1 n0 n1 F1 hd1 => ?_
  have e1 : h1[h.length]? = some (.lst []) := F1.keep get_push (by simp) (by omega)
  simp (maxDischargeDepth := 9) only [W_seq, W_asg, W_set, W_V, WV_some, W_C, W_op, W_cmpT, W_isB, W_un, W_tru, W_andT, W_orT, W_notT, W_andV, W_orV, W_notV, W_ife, W_nil, W_cons, W_tup, W_lst, W_addI, W_subI, W_iaddI, W_negI, W_mulI, W_fdivI, W_modI, W_powI, W_cmpI, W_isB_bl, W_isNB, W_isN, W_isntB, W_isntN, W_eqI, W_neI, W_pass, W_brk, W_cont, W_drop, W_rt, W_rtN, W_ifS, W_gsNil, W_gsCons, W_gTup, W_aug, W_call, W_B, RtN_rt, RtN_nx, W_abs, W_intI, W_intB, W_noPart, W_part, W_sl, W_lm, W_lm0, W_iter, W_range1, W_range2, W_forE, W_revE, W_compE, W_yes, W_lenT, W_truB, W_truI, List.append_nil, List.getElem?_cons_zero, List.getElem?_cons_succ, List.set_cons_zero, List.set_cons_succ, List.getElem?_set_self, List.getElem?_set_ne, lt_set, ne_eq, Nat.reduceEqDiff, not_false_eq_true, Nat.reduceLT, Nat.zero_ne_one, Nat.one_ne_zero, Nat.lt_add_one, Nat.zero_lt_succ, startD, List.map_cons, List.map_nil, List.length_cons, List.length_nil, List.cons_append, List.nil_append, Nat.reduceAdd, Nat.reduceSub, Nat.zero_add, List.replicate_succ, List.replicate_zero, W_inSC, List.all_cons, List.all_nil, flatD, List.any_cons, List.any_nil, eqF, Bool.and_true, Bool.or_false, Bool.or_true, Bool.true_or, Bool.false_or, Bool.true_and, Bool.false_and, Option.some.injEq, D.int.injEq, exists_eq_left', exists_eq_left, W_listT, List.set_set, lt_push, len_lt, List.getElem?_append_left, W_fldC, W_setFC, W_clsC, W_methC, W_lenC, W_ixC, W_ixTO, W_isLstC, W_appC, W_listC, W_tupC, W_truC, W_slC, W_slTT, W_addTT, W_addC, W_setIC, W_getIC, W_delC, W_isDctC, W_dgetC, W_dictC, W_dict0, W_eqS, W_neS, W_eqB, W_neB, W_meth, W_make, W_setF, W_augF, W_callK, W_chain, W_chainT, W_del, W_gSub, W_augI, W_get1, W_srcC, WCell_some, WO_some, at0, at1, at2, at3, at4, at5, ix0, ix1, at_nat, memS, lookF, putFD, String.reduceEq, String.reduceBEq, if_true, if_false, Bool.false_eq_true, Option.isNone_none, true_and, and_true, and_self, get_push, isNonD, Bool.not_true, Bool.not_false, cs_from_first, cs_own, cs_others, cs_spare, cs_locks, cs_closed]
  refine ⟨_, rfl, by omega, ?_⟩
  obtain ⟨I, hI⟩ : ∃ I : Nat → Ev → Hd → Prop, ∀ i σ h', I i σ h' = (σ.length = 5 ∧ σ[0]? = some (some (.ref 1)) ∧ σ[1]? = some (some (.ref h.length)) ∧ Fr [] h h' ∧ Dk h' ∧ ∃ ls : List Lk, h'[h.length]? = some (.lst (ls.map lD)) ∧ ls.length ≤ i) := ⟨_, fun _ _ _ => rfl⟩
  refine w_forR I (by rw [hI]; exact ⟨by simp, by simp, by simp, Fr.push.trans F1, hd1, [], e1, by simp⟩) ?_ ?_
  · intro i σ h' hi z
    rw [hI] at z
    obtain ⟨sl, s0, s1, F, hd, ls, e, hl⟩ := z
    unfold Turn L__law_drawn_state_0
    simp (maxDischargeDepth := 9) only [W_seq, W_asg, W_set, W_V, WV_some, W_C, W_op, W_cmpT, W_isB, W_un, W_tru, W_andT, W_orT, W_notT, W_andV, W_orV, W_notV, W_ife, W_nil, W_cons, W_tup, W_lst, W_addI, W_subI, W_iaddI, W_negI, W_mulI, W_fdivI, W_modI, W_powI, W_cmpI, W_isB_bl, W_isNB, W_isN, W_isntB, W_isntN, W_eqI, W_neI, W_pass, W_brk, W_cont, W_drop, W_rt, W_rtN, W_ifS, W_gsNil, W_gsCons, W_gTup, W_aug, W_call, W_B, RtN_rt, RtN_nx, W_abs, W_intI, W_intB, W_noPart, W_part, W_sl, W_lm, W_lm0, W_iter, W_range1, W_range2, W_forE, W_revE, W_compE, W_yes, W_lenT, W_truB, W_truI, List.append_nil, List.getElem?_cons_zero, List.getElem?_cons_succ, List.set_cons_zero, List.set_cons_succ, List.getElem?_set_self, List.getElem?_set_ne, lt_set, ne_eq, Nat.reduceEqDiff, not_false_eq_true, Nat.reduceLT, Nat.zero_ne_one, Nat.one_ne_zero, Nat.lt_add_one, Nat.zero_lt_succ, startD, List.map_cons, List.map_nil, List.length_cons, List.length_nil, List.cons_append, List.nil_append, Nat.reduceAdd, Nat.reduceSub, Nat.zero_add, List.replicate_succ, List.replicate_zero, W_inSC, List.all_cons, List.all_nil, flatD, List.any_cons, List.any_nil, eqF, Bool.and_true, Bool.or_false, Bool.or_true, Bool.true_or, Bool.false_or, Bool.true_and, Bool.false_and, Option.some.injEq, D.int.injEq, exists_eq_left', exists_eq_left, W_listT, List.set_set, lt_push, len_lt, List.getElem?_append_left, W_fldC, W_setFC, W_clsC, W_methC, W_lenC, W_ixC, W_ixTO, W_isLstC, W_appC, W_listC, W_tupC, W_truC, W_slC, W_slTT, W_addTT, W_addC, W_setIC, W_getIC, W_delC, W_isDctC, W_dgetC, W_dictC, W_dict0, W_eqS, W_neS, W_eqB, W_neB, W_meth, W_make, W_setF, W_augF, W_callK, W_chain, W_chainT, W_del, W_gSub, W_augI, W_get1, W_srcC, WCell_some, WO_some, at0, at1, at2, at3, at4, at5, ix0, ix1, at_nat, memS, lookF, putFD, String.reduceEq, String.reduceBEq, if_true, if_false, Bool.false_eq_true, Option.isNone_none, true_and, and_true, and_self, get_push, isNonD, Bool.not_true, Bool.not_false, cs_from_first, cs_own, cs_others, cs_spare, cs_locks, cs_closed, sl, s0, s1]
    refine take_law hd (by decide) fun a ha a0 a1 Fa hda => ?_
    simp (maxDischargeDepth := 9) only [W_seq, W_asg, W_set, W_V, WV_some, W_C, W_op, W_cmpT, W_isB, W_un, W_tru, W_andT, W_orT, W_notT, W_andV, W_orV, W_notV, W_ife, W_nil, W_cons, W_tup, W_lst, W_addI, W_subI, W_iaddI, W_negI, W_mulI, W_fdivI, W_modI, W_powI, W_cmpI, W_isB_bl, W_isNB, W_isN, W_isntB, W_isntN, W_eqI, W_neI, W_pass, W_brk, W_cont, W_drop, W_rt, W_rtN, W_ifS, W_gsNil, W_gsCons, W_gTup, W_aug, W_call, W_B, RtN_rt, RtN_nx, W_abs, W_intI, W_intB, W_noPart, W_part, W_sl, W_lm, W_lm0, W_iter, W_range1, W_range2, W_forE, W_revE, W_compE, W_yes, W_lenT, W_truB, W_truI, List.append_nil, List.getElem?_cons_zero, List.getElem?_cons_succ, List.set_cons_zero, List.set_cons_succ, List.getElem?_set_self, List.getElem?_set_ne, lt_set, ne_eq, Nat.reduceEqDiff, not_false_eq_true, Nat.reduceLT, Nat.zero_ne_one, Nat.one_ne_zero, Nat.lt_add_one, Nat.zero_lt_succ, startD, List.map_cons, List.map_nil, List.length_cons, List.length_nil, List.cons_append, List.nil_append, Nat.reduceAdd, Nat.reduceSub, Nat.zero_add, List.replicate_succ, List.replicate_zero, W_inSC, List.all_cons, List.all_nil, flatD, List.any_cons, List.any_nil, eqF, Bool.and_true, Bool.or_false, Bool.or_true, Bool.true_or, Bool.false_or, Bool.true_and, Bool.false_and, Option.some.injEq, D.int.injEq, exists_eq_left', exists_eq_left, W_listT, List.set_set, lt_push, len_lt, List.getElem?_append_left, W_fldC, W_setFC, W_clsC, W_methC, W_lenC, W_ixC, W_ixTO, W_isLstC, W_appC, W_listC, W_tupC, W_truC, W_slC, W_slTT, W_addTT, W_addC, W_setIC, W_getIC, W_delC, W_isDctC, W_dgetC, W_dictC, W_dict0, W_eqS, W_neS, W_eqB, W_neB, W_meth, W_make, W_setF, W_augF, W_callK, W_chain, W_chainT, W_del, W_gSub, W_augI, W_get1, W_srcC, WCell_some, WO_some, at0, at1, at2, at3, at4, at5, ix0, ix1, at_nat, memS, lookF, putFD, String.reduceEq, String.reduceBEq, if_true, if_false, Bool.false_eq_true, Option.isNone_none, true_and, and_true, and_self, get_push, isNonD, Bool.not_true, Bool.not_false, cs_from_first, cs_own, cs_others, cs_spare, cs_locks, cs_closed, sl, s0, s1]
    refine secret_law a0 a1 fun sc hb Fb => ?_
    simp (maxDischargeDepth := 9) only [W_seq, W_asg, W_set, W_V, WV_some, W_C, W_op, W_cmpT, W_isB, W_un, W_tru, W_andT, W_orT, W_notT, W_andV, W_orV, W_notV, W_ife, W_nil, W_cons, W_tup, W_lst, W_addI, W_subI, W_iaddI, W_negI, W_mulI, W_fdivI, W_modI, W_powI, W_cmpI, W_isB_bl, W_isNB, W_isN, W_isntB, W_isntN, W_eqI, W_neI, W_pass, W_brk, W_cont, W_drop, W_rt, W_rtN, W_ifS, W_gsNil, W_gsCons, W_gTup, W_aug, W_call, W_B, RtN_rt, RtN_nx, W_abs, W_intI, W_intB, W_noPart, W_part, W_sl, W_lm, W_lm0, W_iter, W_range1, W_range2, W_forE, W_revE, W_compE, W_yes, W_lenT, W_truB, W_truI, List.append_nil, List.getElem?_cons_zero, List.getElem?_cons_succ, List.set_cons_zero, List.set_cons_succ, List.getElem?_set_self, List.getElem?_set_ne, lt_set, ne_eq, Nat.reduceEqDiff, not_false_eq_true, Nat.reduceLT, Nat.zero_ne_one, Nat.one_ne_zero, Nat.lt_add_one, Nat.zero_lt_succ, startD, List.map_cons, List.map_nil, List.length_cons, List.length_nil, List.cons_append, List.nil_append, Nat.reduceAdd, Nat.reduceSub, Nat.zero_add, List.replicate_succ, List.replicate_zero, W_inSC, List.all_cons, List.all_nil, flatD, List.any_cons, List.any_nil, eqF, Bool.and_true, Bool.or_false, Bool.or_true, Bool.true_or, Bool.false_or, Bool.true_and, Bool.false_and, Option.some.injEq, D.int.injEq, exists_eq_left', exists_eq_left, W_listT, List.set_set, lt_push, len_lt, List.getElem?_append_left, W_fldC, W_setFC, W_clsC, W_methC, W_lenC, W_ixC, W_ixTO, W_isLstC, W_appC, W_listC, W_tupC, W_truC, W_slC, W_slTT, W_addTT, W_addC, W_setIC, W_getIC, W_delC, W_isDctC, W_dgetC, W_dictC, W_dict0, W_eqS, W_neS, W_eqB, W_neB, W_meth, W_make, W_setF, W_augF, W_callK, W_chain, W_chainT, W_del, W_gSub, W_augI, W_get1, W_srcC, WCell_some, WO_some, at0, at1, at2, at3, at4, at5, ix0, ix1, at_nat, memS, lookF, putFD, String.reduceEq, String.reduceBEq, if_true, if_false, Bool.false_eq_true, Option.isNone_none, true_and, and_true, and_self, get_push, isNonD, Bool.not_true, Bool.not_false, cs_from_first, cs_own, cs_others, cs_spare, cs_locks, cs_closed, sl, s0, s1]
    refine lkey_law ?_
    have eb := (Fa.trans Fb).keep e (by simp) (by omega)
    simp (maxDischargeDepth := 9) only [W_seq, W_asg, W_set, W_V, WV_some, W_C, W_op, W_cmpT, W_isB, W_un, W_tru, W_andT, W_orT, W_notT, W_andV, W_orV, W_notV, W_ife, W_nil, W_cons, W_tup, W_lst, W_addI, W_subI, W_iaddI, W_negI, W_mulI, W_fdivI, W_modI, W_powI, W_cmpI, W_isB_bl, W_isNB, W_isN, W_isntB, W_isntN, W_eqI, W_neI, W_pass, W_brk, W_cont, W_drop, W_rt, W_rtN, W_ifS, W_gsNil, W_gsCons, W_gTup, W_aug, W_call, W_B, RtN_rt, RtN_nx, W_abs, W_intI, W_intB, W_noPart, W_part, W_sl, W_lm, W_lm0, W_iter, W_range1, W_range2, W_forE, W_revE, W_compE, W_yes, W_lenT, W_truB, W_truI, List.append_nil, List.getElem?_cons_zero, List.getElem?_cons_succ, List.set_cons_zero, List.set_cons_succ, List.getElem?_set_self, List.getElem?_set_ne, lt_set, ne_eq, Nat.reduceEqDiff, not_false_eq_true, Nat.reduceLT, Nat.zero_ne_one, Nat.one_ne_zero, Nat.lt_add_one, Nat.zero_lt_succ, startD, List.map_cons, List.map_nil, List.length_cons, List.length_nil, List.cons_append, List.nil_append, Nat.reduceAdd, Nat.reduceSub, Nat.zero_add, List.replicate_succ, List.replicate_zero, W_inSC, List.all_cons, List.all_nil, flatD, List.any_cons, List.any_nil, eqF, Bool.and_true, Bool.or_false, Bool.or_true, Bool.true_or, Bool.false_or, Bool.true_and, Bool.false_and, Option.some.injEq, D.int.injEq, exists_eq_left', exists_eq_left, W_listT, List.set_set, lt_push, len_lt, List.getElem?_append_left, W_fldC, W_setFC, W_clsC, W_methC, W_lenC, W_ixC, W_ixTO, W_isLstC, W_appC, W_listC, W_tupC, W_truC, W_slC, W_slTT, W_addTT, W_addC, W_setIC, W_getIC, W_delC, W_isDctC, W_dgetC, W_dictC, W_dict0, W_eqS, W_neS, W_eqB, W_neB, W_meth, W_make, W_setF, W_augF, W_callK, W_chain, W_chainT, W_del, W_gSub, W_augI, W_get1, W_srcC, WCell_some, WO_some, at0, at1, at2, at3, at4, at5, ix0, ix1, at_nat, memS, lookF, putFD, String.reduceEq, String.reduceBEq, if_true, if_false, Bool.false_eq_true, Option.isNone_none, true_and, and_true, and_self, get_push, isNonD, Bool.not_true, Bool.not_false, cs_from_first, cs_own, cs_others, cs_spare, cs_locks, cs_closed, sl, s0, s1, eb]
    refine take_law (Fb.dk hda) (by decide) fun b hc b0 b1 Fc hdc => ?_
    simp (maxDischargeDepth := 9) only [W_seq, W_asg, W_set, W_V, WV_some, W_C, W_op, W_cmpT, W_isB, W_un, W_tru, W_andT, W_orT, W_notT, W_andV, W_orV, W_notV, W_ife, W_nil, W_cons, W_tup, W_lst, W_addI, W_subI, W_iaddI, W_negI, W_mulI, W_fdivI, W_modI, W_powI, W_cmpI, W_isB_bl, W_isNB, W_isN, W_isntB, W_isntN, W_eqI, W_neI, W_pass, W_brk, W_cont, W_drop, W_rt, W_rtN, W_ifS, W_gsNil, W_gsCons, W_gTup, W_aug, W_call, W_B, RtN_rt, RtN_nx, W_abs, W_intI, W_intB, W_noPart, W_part, W_sl, W_lm, W_lm0, W_iter, W_range1, W_range2, W_forE, W_revE, W_compE, W_yes, W_lenT, W_truB, W_truI, List.append_nil, List.getElem?_cons_zero, List.getElem?_cons_succ, List.set_cons_zero, List.set_cons_succ, List.getElem?_set_self, List.getElem?_set_ne, lt_set, ne_eq, Nat.reduceEqDiff, not_false_eq_true, Nat.reduceLT, Nat.zero_ne_one, Nat.one_ne_zero, Nat.lt_add_one, Nat.zero_lt_succ, startD, List.map_cons, List.map_nil, List.length_cons, List.length_nil, List.cons_append, List.nil_append, Nat.reduceAdd, Nat.reduceSub, Nat.zero_add, List.replicate_succ, List.replicate_zero, W_inSC, List.all_cons, List.all_nil, flatD, List.any_cons, List.any_nil, eqF, Bool.and_true, Bool.or_false, Bool.or_true, Bool.true_or, Bool.false_or, Bool.true_and, Bool.false_and, Option.some.injEq, D.int.injEq, exists_eq_left', exists_eq_left, W_listT, List.set_set, lt_push, len_lt, List.getElem?_append_left, W_fldC, W_setFC, W_clsC, W_methC, W_lenC, W_ixC, W_ixTO, W_isLstC, W_appC, W_listC, W_tupC, W_truC, W_slC, W_slTT, W_addTT, W_addC, W_setIC, W_getIC, W_delC, W_isDctC, W_dgetC, W_dictC, W_dict0, W_eqS, W_neS, W_eqB, W_neB, W_meth, W_make, W_setF, W_augF, W_callK, W_chain, W_chainT, W_del, W_gSub, W_augI, W_get1, W_srcC, WCell_some, WO_some, at0, at1, at2, at3, at4, at5, ix0, ix1, at_nat, memS, lookF, putFD, String.reduceEq, String.reduceBEq, if_true, if_false, Bool.false_eq_true, Option.isNone_none, true_and, and_true, and_self, get_push, isNonD, Bool.not_true, Bool.not_false, cs_from_first, cs_own, cs_others, cs_spare, cs_locks, cs_closed, sl, s0, s1]
    refine take_law hdc (by decide) fun c hd' c0 c1 Fd hdd => ?_
    simp (maxDischargeDepth := 9) only [W_seq, W_asg, W_set, W_V, WV_some, W_C, W_op, W_cmpT, W_isB, W_un, W_tru, W_andT, W_orT, W_notT, W_andV, W_orV, W_notV, W_ife, W_nil, W_cons, W_tup, W_lst, W_addI, W_subI, W_iaddI, W_negI, W_mulI, W_fdivI, W_modI, W_powI, W_cmpI, W_isB_bl, W_isNB, W_isN, W_isntB, W_isntN, W_eqI, W_neI, W_pass, W_brk, W_cont, W_drop, W_rt, W_rtN, W_ifS, W_gsNil, W_gsCons, W_gTup, W_aug, W_call, W_B, RtN_rt, RtN_nx, W_abs, W_intI, W_intB, W_noPart, W_part, W_sl, W_lm, W_lm0, W_iter, W_range1, W_range2, W_forE, W_revE, W_compE, W_yes, W_lenT, W_truB, W_truI, List.append_nil, List.getElem?_cons_zero, List.getElem?_cons_succ, List.set_cons_zero, List.set_cons_succ, List.getElem?_set_self, List.getElem?_set_ne, lt_set, ne_eq, Nat.reduceEqDiff, not_false_eq_true, Nat.reduceLT, Nat.zero_ne_one, Nat.one_ne_zero, Nat.lt_add_one, Nat.zero_lt_succ, startD, List.map_cons, List.map_nil, List.length_cons, List.length_nil, List.cons_append, List.nil_append, Nat.reduceAdd, Nat.reduceSub, Nat.zero_add, List.replicate_succ, List.replicate_zero, W_inSC, List.all_cons, List.all_nil, flatD, List.any_cons, List.any_nil, eqF, Bool.and_true, Bool.or_false, Bool.or_true, Bool.true_or, Bool.false_or, Bool.true_and, Bool.false_and, Option.some.injEq, D.int.injEq, exists_eq_left', exists_eq_left, W_listT, List.set_set, lt_push, len_lt, List.getElem?_append_left, W_fldC, W_setFC, W_clsC, W_methC, W_lenC, W_ixC, W_ixTO, W_isLstC, W_appC, W_listC, W_tupC, W_truC, W_slC, W_slTT, W_addTT, W_addC, W_setIC, W_getIC, W_delC, W_isDctC, W_dgetC, W_dictC, W_dict0, W_eqS, W_neS, W_eqB, W_neB, W_meth, W_make, W_setF, W_augF, W_callK, W_chain, W_chainT, W_del, W_gSub, W_augI, W_get1, W_srcC, WCell_some, WO_some, at0, at1, at2, at3, at4, at5, ix0, ix1, at_nat, memS, lookF, putFD, String.reduceEq, String.reduceBEq, if_true, if_false, Bool.false_eq_true, Option.isNone_none, true_and, and_true, and_self, get_push, isNonD, Bool.not_true, Bool.not_false, cs_from_first, cs_own, cs_others, cs_spare, cs_locks, cs_closed, sl, s0, s1]
    refine take_law hdd (by decide) fun e' he e0 e1 Fe hde => ?_
    have e2 := ((Fc.trans Fd).trans Fe).keep eb (by simp) (by omega)
    have F5 := ((((F.trans Fa).trans Fb).trans Fc).trans Fd).trans Fe
    have lt2 := get_lt e2
    simp (maxDischargeDepth := 9) only [W_seq, W_asg, W_set, W_V, WV_some, W_C, W_op, W_cmpT, W_isB, W_un, W_tru, W_andT, W_orT, W_notT, W_andV, W_orV, W_notV, W_ife, W_nil, W_cons, W_tup, W_lst, W_addI, W_subI, W_iaddI, W_negI, W_mulI, W_fdivI, W_modI, W_powI, W_cmpI, W_isB_bl, W_isNB, W_isN, W_isntB, W_isntN, W_eqI, W_neI, W_pass, W_brk, W_cont, W_drop, W_rt, W_rtN, W_ifS, W_gsNil, W_gsCons, W_gTup, W_aug, W_call, W_B, RtN_rt, RtN_nx, W_abs, W_intI, W_intB, W_noPart, W_part, W_sl, W_lm, W_lm0, W_iter, W_range1, W_range2, W_forE, W_revE, W_compE, W_yes, W_lenT, W_truB, W_truI, List.append_nil, List.getElem?_cons_zero, List.getElem?_cons_succ, List.set_cons_zero, List.set_cons_succ, List.getElem?_set_self, List.getElem?_set_ne, lt_set, ne_eq, Nat.reduceEqDiff, not_false_eq_true, Nat.reduceLT, Nat.zero_ne_one, Nat.one_ne_zero, Nat.lt_add_one, Nat.zero_lt_succ, startD, List.map_cons, List.map_nil, List.length_cons, List.length_nil, List.cons_append, List.nil_append, Nat.reduceAdd, Nat.reduceSub, Nat.zero_add, List.replicate_succ, List.replicate_zero, W_inSC, List.all_cons, List.all_nil, flatD, List.any_cons, List.any_nil, eqF, Bool.and_true, Bool.or_false, Bool.or_true, Bool.true_or, Bool.false_or, Bool.true_and, Bool.false_and, Option.some.injEq, D.int.injEq, exists_eq_left', exists_eq_left, W_listT, List.set_set, lt_push, len_lt, List.getElem?_append_left, W_fldC, W_setFC, W_clsC, W_methC, W_lenC, W_ixC, W_ixTO, W_isLstC, W_appC, W_listC, W_tupC, W_truC, W_slC, W_slTT, W_addTT, W_addC, W_setIC, W_getIC, W_delC, W_isDctC, W_dgetC, W_dictC, W_dict0, W_eqS, W_neS, W_eqB, W_neB, W_meth, W_make, W_setF, W_augF, W_callK, W_chain, W_chainT, W_del, W_gSub, W_augI, W_get1, W_srcC, WCell_some, WO_some, at0, at1, at2, at3, at4, at5, ix0, ix1, at_nat, memS, lookF, putFD, String.reduceEq, String.reduceBEq, if_true, if_false, Bool.false_eq_true, Option.isNone_none, true_and, and_true, and_self, get_push, isNonD, Bool.not_true, Bool.not_false, cs_from_first, cs_own, cs_others, cs_spare, cs_locks, cs_closed, sl, s0, s1, e2]
    refine ⟨by decide, by simp; show _ < 1000000; omega, ?_⟩
    have W1 : Fr [h.length] he (he.set h.length (.lst (ls.map lD ++ [D.tup [.int (keyP sc), .int (1 + b), .int c, .bl (e' == 0)]]))) := .write (by simp) (by omega)
    rw [hI]
    refine ⟨by simp [sl], by simp [s0], by simp [s1], Fr.fresh (n := h.length) ((F5.mono fun _ _ z => by cases z).trans W1) (Nat.le_refl _), W1.dk hde, ls ++ [⟨keyP sc, 1 + b, c, e' == 0⟩], ?_, by simp; omega⟩
    rw [get_set e2]; simp [lD]
  · intro σ h' z
    rw [hI] at z
    obtain ⟨sl, s0, s1, F, hd, ls, e, hl⟩ := z
    have l6 : ls.length ≤ 6 := by omega
    simp (maxDischargeDepth := 9) only [W_seq, W_asg, W_set, W_V, WV_some, W_C, W_op, W_cmpT, W_isB, W_un, W_tru, W_andT, W_orT, W_notT, W_andV, W_orV, W_notV, W_ife, W_nil, W_cons, W_tup, W_lst, W_addI, W_subI, W_iaddI, W_negI, W_mulI, W_fdivI, W_modI, W_powI, W_cmpI, W_isB_bl, W_isNB, W_isN, W_isntB, W_isntN, W_eqI, W_neI, W_pass, W_brk, W_cont, W_drop, W_rt, W_rtN, W_ifS, W_gsNil, W_gsCons, W_gTup, W_aug, W_call, W_B, RtN_rt, RtN_nx, W_abs, W_intI, W_intB, W_noPart, W_part, W_sl, W_lm, W_lm0, W_iter, W_range1, W_range2, W_forE, W_revE, W_compE, W_yes, W_lenT, W_truB, W_truI, List.append_nil, List.getElem?_cons_zero, List.getElem?_cons_succ, List.set_cons_zero, List.set_cons_succ, List.getElem?_set_self, List.getElem?_set_ne, lt_set, ne_eq, Nat.reduceEqDiff, not_false_eq_true, Nat.reduceLT, Nat.zero_ne_one, Nat.one_ne_zero, Nat.lt_add_one, Nat.zero_lt_succ, startD, List.map_cons, List.map_nil, List.length_cons, List.length_nil, List.cons_append, List.nil_append, Nat.reduceAdd, Nat.reduceSub, Nat.zero_add, List.replicate_succ, List.replicate_zero, W_inSC, List.all_cons, List.all_nil, flatD, List.any_cons, List.any_nil, eqF, Bool.and_true, Bool.or_false, Bool.or_true, Bool.true_or, Bool.false_or, Bool.true_and, Bool.false_and, Option.some.injEq, D.int.injEq, exists_eq_left', exists_eq_left, W_listT, List.set_set, lt_push, len_lt, List.getElem?_append_left, W_fldC, W_setFC, W_clsC, W_methC, W_lenC, W_ixC, W_ixTO, W_isLstC, W_appC, W_listC, W_tupC, W_truC, W_slC, W_slTT, W_addTT, W_addC, W_setIC, W_getIC, W_delC, W_isDctC, W_dgetC, W_dictC, W_dict0, W_eqS, W_neS, W_eqB, W_neB, W_meth, W_make, W_setF, W_augF, W_callK, W_chain, W_chainT, W_del, W_gSub, W_augI, W_get1, W_srcC, WCell_some, WO_some, at0, at1, at2, at3, at4, at5, ix0, ix1, at_nat, memS, lookF, putFD, String.reduceEq, String.reduceBEq, if_true, if_false, Bool.false_eq_true, Option.isNone_none, true_and, and_true, and_self, get_push, isNonD, Bool.not_true, Bool.not_false, cs_from_first, cs_own, cs_others, cs_spare, cs_locks, cs_closed, sl, s0, s1]
    refine take_law hd (by decide) fun a ha a0 a1 Fa hda => ?_
    simp (maxDischargeDepth := 9) only [W_seq, W_asg, W_set, W_V, WV_some, W_C, W_op, W_cmpT, W_isB, W_un, W_tru, W_andT, W_orT, W_notT, W_andV, W_orV, W_notV, W_ife, W_nil, W_cons, W_tup, W_lst, W_addI, W_subI, W_iaddI, W_negI, W_mulI, W_fdivI, W_modI, W_powI, W_cmpI, W_isB_bl, W_isNB, W_isN, W_isntB, W_isntN, W_eqI, W_neI, W_pass, W_brk, W_cont, W_drop, W_rt, W_rtN, W_ifS, W_gsNil, W_gsCons, W_gTup, W_aug, W_call, W_B, RtN_rt, RtN_nx, W_abs, W_intI, W_intB, W_noPart, W_part, W_sl, W_lm, W_lm0, W_iter, W_range1, W_range2, W_forE, W_revE, W_compE, W_yes, W_lenT, W_truB, W_truI, List.append_nil, List.getElem?_cons_zero, List.getElem?_cons_succ, List.set_cons_zero, List.set_cons_succ, List.getElem?_set_self, List.getElem?_set_ne, lt_set, ne_eq, Nat.reduceEqDiff, not_false_eq_true, Nat.reduceLT, Nat.zero_ne_one, Nat.one_ne_zero, Nat.lt_add_one, Nat.zero_lt_succ, startD, List.map_cons, List.map_nil, List.length_cons, List.length_nil, List.cons_append, List.nil_append, Nat.reduceAdd, Nat.reduceSub, Nat.zero_add, List.replicate_succ, List.replicate_zero, W_inSC, List.all_cons, List.all_nil, flatD, List.any_cons, List.any_nil, eqF, Bool.and_true, Bool.or_false, Bool.or_true, Bool.true_or, Bool.false_or, Bool.true_and, Bool.false_and, Option.some.injEq, D.int.injEq, exists_eq_left', exists_eq_left, W_listT, List.set_set, lt_push, len_lt, List.getElem?_append_left, W_fldC, W_setFC, W_clsC, W_methC, W_lenC, W_ixC, W_ixTO, W_isLstC, W_appC, W_listC, W_tupC, W_truC, W_slC, W_slTT, W_addTT, W_addC, W_setIC, W_getIC, W_delC, W_isDctC, W_dgetC, W_dictC, W_dict0, W_eqS, W_neS, W_eqB, W_neB, W_meth, W_make, W_setF, W_augF, W_callK, W_chain, W_chainT, W_del, W_gSub, W_augI, W_get1, W_srcC, WCell_some, WO_some, at0, at1, at2, at3, at4, at5, ix0, ix1, at_nat, memS, lookF, putFD, String.reduceEq, String.reduceBEq, if_true, if_false, Bool.false_eq_true, Option.isNone_none, true_and, and_true, and_self, get_push, isNonD, Bool.not_true, Bool.not_false, cs_from_first, cs_own, cs_others, cs_spare, cs_locks, cs_closed, sl, s0, s1]
    refine take_law hda (by decide) fun b hb b0 b1 Fb hdb => ?_
    simp (maxDischargeDepth := 9) only [W_seq, W_asg, W_set, W_V, WV_some, W_C, W_op, W_cmpT, W_isB, W_un, W_tru, W_andT, W_orT, W_notT, W_andV, W_orV, W_notV, W_ife, W_nil, W_cons, W_tup, W_lst, W_addI, W_subI, W_iaddI, W_negI, W_mulI, W_fdivI, W_modI, W_powI, W_cmpI, W_isB_bl, W_isNB, W_isN, W_isntB, W_isntN, W_eqI, W_neI, W_pass, W_brk, W_cont, W_drop, W_rt, W_rtN, W_ifS, W_gsNil, W_gsCons, W_gTup, W_aug, W_call, W_B, RtN_rt, RtN_nx, W_abs, W_intI, W_intB, W_noPart, W_part, W_sl, W_lm, W_lm0, W_iter, W_range1, W_range2, W_forE, W_revE, W_compE, W_yes, W_lenT, W_truB, W_truI, List.append_nil, List.getElem?_cons_zero, List.getElem?_cons_succ, List.set_cons_zero, List.set_cons_succ, List.getElem?_set_self, List.getElem?_set_ne, lt_set, ne_eq, Nat.reduceEqDiff, not_false_eq_true, Nat.reduceLT, Nat.zero_ne_one, Nat.one_ne_zero, Nat.lt_add_one, Nat.zero_lt_succ, startD, List.map_cons, List.map_nil, List.length_cons, List.length_nil, List.cons_append, List.nil_append, Nat.reduceAdd, Nat.reduceSub, Nat.zero_add, List.replicate_succ, List.replicate_zero, W_inSC, List.all_cons, List.all_nil, flatD, List.any_cons, List.any_nil, eqF, Bool.and_true, Bool.or_false, Bool.or_true, Bool.true_or, Bool.false_or, Bool.true_and, Bool.false_and, Option.some.injEq, D.int.injEq, exists_eq_left', exists_eq_left, W_listT, List.set_set, lt_push, len_lt, List.getElem?_append_left, W_fldC, W_setFC, W_clsC, W_methC, W_lenC, W_ixC, W_ixTO, W_isLstC, W_appC, W_listC, W_tupC, W_truC, W_slC, W_slTT, W_addTT, W_addC, W_setIC, W_getIC, W_delC, W_isDctC, W_dgetC, W_dictC, W_dict0, W_eqS, W_neS, W_eqB, W_neB, W_meth, W_make, W_setF, W_augF, W_callK, W_chain, W_chainT, W_del, W_gSub, W_augI, W_get1, W_srcC, WCell_some, WO_some, at0, at1, at2, at3, at4, at5, ix0, ix1, at_nat, memS, lookF, putFD, String.reduceEq, String.reduceBEq, if_true, if_false, Bool.false_eq_true, Option.isNone_none, true_and, and_true, and_self, get_push, isNonD, Bool.not_true, Bool.not_false, cs_from_first, cs_own, cs_others, cs_spare, cs_locks, cs_closed, sl, s0, s1]
    refine ⟨by decide, ?_⟩
    refine pick_law get_push (by have := hdb.lt; omega) (by simp) (Fr.push (S := []).dk hdb) fun i hi hc Fc hdc => ?_
    obtain ⟨f, hf⟩ : ∃ f : Int, ([.int a, .int (b - 15)] : List D)[i] = .int f := by
      rcases i with _ | _ | i
      · exact ⟨_, rfl⟩
      · exact ⟨_, rfl⟩
      · simp at hi; omega
    rw [hf]
    simp (maxDischargeDepth := 9) only [W_seq, W_asg, W_set, W_V, WV_some, W_C, W_op, W_cmpT, W_isB, W_un, W_tru, W_andT, W_orT, W_notT, W_andV, W_orV, W_notV, W_ife, W_nil, W_cons, W_tup, W_lst, W_addI, W_subI, W_iaddI, W_negI, W_mulI, W_fdivI, W_modI, W_powI, W_cmpI, W_isB_bl, W_isNB, W_isN, W_isntB, W_isntN, W_eqI, W_neI, W_pass, W_brk, W_cont, W_drop, W_rt, W_rtN, W_ifS, W_gsNil, W_gsCons, W_gTup, W_aug, W_call, W_B, RtN_rt, RtN_nx, W_abs, W_intI, W_intB, W_noPart, W_part, W_sl, W_lm, W_lm0, W_iter, W_range1, W_range2, W_forE, W_revE, W_compE, W_yes, W_lenT, W_truB, W_truI, List.append_nil, List.getElem?_cons_zero, List.getElem?_cons_succ, List.set_cons_zero, List.set_cons_succ, List.getElem?_set_self, List.getElem?_set_ne, lt_set, ne_eq, Nat.reduceEqDiff, not_false_eq_true, Nat.reduceLT, Nat.zero_ne_one, Nat.one_ne_zero, Nat.lt_add_one, Nat.zero_lt_succ, startD, List.map_cons, List.map_nil, List.length_cons, List.length_nil, List.cons_append, List.nil_append, Nat.reduceAdd, Nat.reduceSub, Nat.zero_add, List.replicate_succ, List.replicate_zero, W_inSC, List.all_cons, List.all_nil, flatD, List.any_cons, List.any_nil, eqF, Bool.and_true, Bool.or_false, Bool.or_true, Bool.true_or, Bool.false_or, Bool.true_and, Bool.false_and, Option.some.injEq, D.int.injEq, exists_eq_left', exists_eq_left, W_listT, List.set_set, lt_push, len_lt, List.getElem?_append_left, W_fldC, W_setFC, W_clsC, W_methC, W_lenC, W_ixC, W_ixTO, W_isLstC, W_appC, W_listC, W_tupC, W_truC, W_slC, W_slTT, W_addTT, W_addC, W_setIC, W_getIC, W_delC, W_isDctC, W_dgetC, W_dictC, W_dict0, W_eqS, W_neS, W_eqB, W_neB, W_meth, W_make, W_setF, W_augF, W_callK, W_chain, W_chainT, W_del, W_gSub, W_augI, W_get1, W_srcC, WCell_some, WO_some, at0, at1, at2, at3, at4, at5, ix0, ix1, at_nat, memS, lookF, putFD, String.reduceEq, String.reduceBEq, if_true, if_false, Bool.false_eq_true, Option.isNone_none, true_and, and_true, and_self, get_push, isNonD, Bool.not_true, Bool.not_false, cs_from_first, cs_own, cs_others, cs_spare, cs_locks, cs_closed, sl, s0, s1]
    refine take_law hdc (by decide) fun n2 hd2 c0 c1 Fd hdd => ?_
    simp (maxDischargeDepth := 9) only [W_seq, W_asg, W_set, W_V, WV_some, W_C, W_op, W_cmpT, W_isB, W_un, W_tru, W_andT, W_orT, W_notT, W_andV, W_orV, W_notV, W_ife, W_nil, W_cons, W_tup, W_lst, W_addI, W_subI, W_iaddI, W_negI, W_mulI, W_fdivI, W_modI, W_powI, W_cmpI, W_isB_bl, W_isNB, W_isN, W_isntB, W_isntN, W_eqI, W_neI, W_pass, W_brk, W_cont, W_drop, W_rt, W_rtN, W_ifS, W_gsNil, W_gsCons, W_gTup, W_aug, W_call, W_B, RtN_rt, RtN_nx, W_abs, W_intI, W_intB, W_noPart, W_part, W_sl, W_lm, W_lm0, W_iter, W_range1, W_range2, W_forE, W_revE, W_compE, W_yes, W_lenT, W_truB, W_truI, List.append_nil, List.getElem?_cons_zero, List.getElem?_cons_succ, List.set_cons_zero, List.set_cons_succ, List.getElem?_set_self, List.getElem?_set_ne, lt_set, ne_eq, Nat.reduceEqDiff, not_false_eq_true, Nat.reduceLT, Nat.zero_ne_one, Nat.one_ne_zero, Nat.lt_add_one, Nat.zero_lt_succ, startD, List.map_cons, List.map_nil, List.length_cons, List.length_nil, List.cons_append, List.nil_append, Nat.reduceAdd, Nat.reduceSub, Nat.zero_add, List.replicate_succ, List.replicate_zero, W_inSC, List.all_cons, List.all_nil, flatD, List.any_cons, List.any_nil, eqF, Bool.and_true, Bool.or_false, Bool.or_true, Bool.true_or, Bool.false_or, Bool.true_and, Bool.false_and, Option.some.injEq, D.int.injEq, exists_eq_left', exists_eq_left, W_listT, List.set_set, lt_push, len_lt, List.getElem?_append_left, W_fldC, W_setFC, W_clsC, W_methC, W_lenC, W_ixC, W_ixTO, W_isLstC, W_appC, W_listC, W_tupC, W_truC, W_slC, W_slTT, W_addTT, W_addC, W_setIC, W_getIC, W_delC, W_isDctC, W_dgetC, W_dictC, W_dict0, W_eqS, W_neS, W_eqB, W_neB, W_meth, W_make, W_setF, W_augF, W_callK, W_chain, W_chainT, W_del, W_gSub, W_augI, W_get1, W_srcC, WCell_some, WO_some, at0, at1, at2, at3, at4, at5, ix0, ix1, at_nat, memS, lookF, putFD, String.reduceEq, String.reduceBEq, if_true, if_false, Bool.false_eq_true, Option.isNone_none, true_and, and_true, and_self, get_push, isNonD, Bool.not_true, Bool.not_false, cs_from_first, cs_own, cs_others, cs_spare, cs_locks, cs_closed, sl, s0, s1]
    refine take_law hdd (by decide) fun g he e0 e1 Fe hde => ?_
    have F7 := ((((Fa.trans Fb).trans .push).trans Fc).trans Fd).trans Fe
    have e2 := F7.keep e (by simp) (by omega)
    simp (maxDischargeDepth := 9) only [W_seq, W_asg, W_set, W_V, WV_some, W_C, W_op, W_cmpT, W_isB, W_un, W_tru, W_andT, W_orT, W_notT, W_andV, W_orV, W_notV, W_ife, W_nil, W_cons, W_tup, W_lst, W_addI, W_subI, W_iaddI, W_negI, W_mulI, W_fdivI, W_modI, W_powI, W_cmpI, W_isB_bl, W_isNB, W_isN, W_isntB, W_isntN, W_eqI, W_neI, W_pass, W_brk, W_cont, W_drop, W_rt, W_rtN, W_ifS, W_gsNil, W_gsCons, W_gTup, W_aug, W_call, W_B, RtN_rt, RtN_nx, W_abs, W_intI, W_intB, W_noPart, W_part, W_sl, W_lm, W_lm0, W_iter, W_range1, W_range2, W_forE, W_revE, W_compE, W_yes, W_lenT, W_truB, W_truI, List.append_nil, List.getElem?_cons_zero, List.getElem?_cons_succ, List.set_cons_zero, List.set_cons_succ, List.getElem?_set_self, List.getElem?_set_ne, lt_set, ne_eq, Nat.reduceEqDiff, not_false_eq_true, Nat.reduceLT, Nat.zero_ne_one, Nat.one_ne_zero, Nat.lt_add_one, Nat.zero_lt_succ, startD, List.map_cons, List.map_nil, List.length_cons, List.length_nil, List.cons_append, List.nil_append, Nat.reduceAdd, Nat.reduceSub, Nat.zero_add, List.replicate_succ, List.replicate_zero, W_inSC, List.all_cons, List.all_nil, flatD, List.any_cons, List.any_nil, eqF, Bool.and_true, Bool.or_false, Bool.or_true, Bool.true_or, Bool.false_or, Bool.true_and, Bool.false_and, Option.some.injEq, D.int.injEq, exists_eq_left', exists_eq_left, W_listT, List.set_set, lt_push, len_lt, List.getElem?_append_left, W_fldC, W_setFC, W_clsC, W_methC, W_lenC, W_ixC, W_ixTO, W_isLstC, W_appC, W_listC, W_tupC, W_truC, W_slC, W_slTT, W_addTT, W_addC, W_setIC, W_getIC, W_delC, W_isDctC, W_dgetC, W_dictC, W_dict0, W_eqS, W_neS, W_eqB, W_neB, W_meth, W_make, W_setF, W_augF, W_callK, W_chain, W_chainT, W_del, W_gSub, W_augI, W_get1, W_srcC, WCell_some, WO_some, at0, at1, at2, at3, at4, at5, ix0, ix1, at_nat, memS, lookF, putFD, String.reduceEq, String.reduceBEq, if_true, if_false, Bool.false_eq_true, Option.isNone_none, true_and, and_true, and_self, get_push, isNonD, Bool.not_true, Bool.not_false, cs_from_first, cs_own, cs_others, cs_spare, cs_locks, cs_closed, sl, s0, s1, e2]
    exact ⟨by decide, q ⟨3, n2, f, g, ls, false⟩ _ l6 rfl (F.trans F7) hde⟩
theorem right_law {s : Stt} {c1 c2 many : Int} (hd : Dk h) (sz : s.locks.length ≤ 8) (hc : s.cl = false) (hm : 0 ≤ many ∧ many ≤ 100) (q : ∀ (ms : List Mv) n h', Fr [] h h' → Dk h' → 2 ≤ n → h'[n]? = some (.lst (ms.map mD)) → (ms.length : Int) ≤ many → nx s ms c1 c2 ≠ none → Q (.ref n) h') : W (F__law_right_moves [.ref 1, sD s, .tup [.int c1, .int c2], .int many]) h Q := by
  unfold F__law_right_moves B__law_right_moves
  refine w_run rfl ?_
  have h1l := hd.lt
  simp (maxDischargeDepth := 9) only [W_seq, W_asg, W_set, W_V, WV_some, W_C, W_op, W_cmpT, W_isB, W_un, W_tru, W_andT, W_orT, W_notT, W_andV, W_orV, W_notV, W_ife, W_nil, W_cons, W_tup, W_lst, W_addI, W_subI, W_iaddI, W_negI, W_mulI, W_fdivI, W_modI, W_powI, W_cmpI, W_isB_bl, W_isNB, W_isN, W_isntB, W_isntN, W_eqI, W_neI, W_pass, W_brk, W_cont, W_drop, W_rt, W_rtN, W_ifS, W_gsNil, W_gsCons, W_gTup, W_aug, W_call, W_B, RtN_rt, RtN_nx, W_abs, W_intI, W_intB, W_noPart, W_part, W_sl, W_lm, W_lm0, W_iter, W_range1, W_range2, W_forE, W_revE, W_compE, W_yes, W_lenT, W_truB, W_truI, List.append_nil, List.getElem?_cons_zero, List.getElem?_cons_succ, List.set_cons_zero, List.set_cons_succ, List.getElem?_set_self, List.getElem?_set_ne, lt_set, ne_eq, Nat.reduceEqDiff, not_false_eq_true, Nat.reduceLT, Nat.zero_ne_one, Nat.one_ne_zero, Nat.lt_add_one, Nat.zero_lt_succ, startD, List.map_cons, List.map_nil, List.length_cons, List.length_nil, List.cons_append, List.nil_append, Nat.reduceAdd, Nat.reduceSub, Nat.zero_add, List.replicate_succ, List.replicate_zero, W_inSC, List.all_cons, List.all_nil, flatD, List.any_cons, List.any_nil, eqF, Bool.and_true, Bool.or_false, Bool.or_true, Bool.true_or, Bool.false_or, Bool.true_and, Bool.false_and, Option.some.injEq, D.int.injEq, exists_eq_left', exists_eq_left, W_listT, List.set_set, lt_push, len_lt, List.getElem?_append_left, W_fldC, W_setFC, W_clsC, W_methC, W_lenC, W_ixC, W_ixTO, W_isLstC, W_appC, W_listC, W_tupC, W_truC, W_slC, W_slTT, W_addTT, W_addC, W_setIC, W_getIC, W_delC, W_isDctC, W_dgetC, W_dictC, W_dict0, W_eqS, W_neS, W_eqB, W_neB, W_meth, W_make, W_setF, W_augF, W_callK, W_chain, W_chainT, W_del, W_gSub, W_augI, W_get1, W_srcC, WCell_some, WO_some, at0, at1, at2, at3, at4, at5, ix0, ix1, at_nat, memS, lookF, putFD, String.reduceEq, String.reduceBEq, if_true, if_false, Bool.false_eq_true, Option.isNone_none, true_and, and_true, and_self, get_push, isNonD, Bool.not_true, Bool.not_false, cs_from_first, cs_own, cs_others, cs_spare, cs_locks, cs_closed]
  refine ⟨by decide, .inl (by decide), _, rfl, by omega, ?_⟩
  obtain ⟨I, hI⟩ : ∃ I : Nat → Ev → Hd → Prop, ∀ i σ h', I i σ h' = (σ.length = 7 ∧ σ[0]? = some (some (.ref 1)) ∧ σ[1]? = some (some (sD s)) ∧ σ[2]? = some (some (.tup [.int c1, .int c2])) ∧ σ[3]? = some (some (.int many)) ∧ σ[4]? = some (some (.ref h.length)) ∧ Fr [] h h' ∧ Dk h' ∧ ∃ ms : List Mv, h'[h.length]? = some (.lst (ms.map mD)) ∧ (ms.length : Int) ≤ many ∧ nx s ms c1 c2 ≠ none) := ⟨_, fun _ _ _ => rfl⟩
  refine w_forR I (by rw [hI]; exact ⟨by simp, by simp, by simp, by simp, by simp, by simp, .push, Fr.push (S := []).dk hd, [], get_push, by simp; omega, by simp [nx, hc, mks]⟩) ?_ ?_
  · intro i σ h' hi z
    rw [hI] at z
    obtain ⟨sl, s0, s1, s2, s3, s4, F, hd, ms, e, hl, hn⟩ := z
    unfold Turn L__law_right_moves_0
    simp (maxDischargeDepth := 9) only [W_seq, W_asg, W_set, W_V, WV_some, W_C, W_op, W_cmpT, W_isB, W_un, W_tru, W_andT, W_orT, W_notT, W_andV, W_orV, W_notV, W_ife, W_nil, W_cons, W_tup, W_lst, W_addI, W_subI, W_iaddI, W_negI, W_mulI, W_fdivI, W_modI, W_powI, W_cmpI, W_isB_bl, W_isNB, W_isN, W_isntB, W_isntN, W_eqI, W_neI, W_pass, W_brk, W_cont, W_drop, W_rt, W_rtN, W_ifS, W_gsNil, W_gsCons, W_gTup, W_aug, W_call, W_B, RtN_rt, RtN_nx, W_abs, W_intI, W_intB, W_noPart, W_part, W_sl, W_lm, W_lm0, W_iter, W_range1, W_range2, W_forE, W_revE, W_compE, W_yes, W_lenT, W_truB, W_truI, List.append_nil, List.getElem?_cons_zero, List.getElem?_cons_succ, List.set_cons_zero, List.set_cons_succ, List.getElem?_set_self, List.getElem?_set_ne, lt_set, ne_eq, Nat.reduceEqDiff, not_false_eq_true, Nat.reduceLT, Nat.zero_ne_one, Nat.one_ne_zero, Nat.lt_add_one, Nat.zero_lt_succ, startD, List.map_cons, List.map_nil, List.length_cons, List.length_nil, List.cons_append, List.nil_append, Nat.reduceAdd, Nat.reduceSub, Nat.zero_add, List.replicate_succ, List.replicate_zero, W_inSC, List.all_cons, List.all_nil, flatD, List.any_cons, List.any_nil, eqF, Bool.and_true, Bool.or_false, Bool.or_true, Bool.true_or, Bool.false_or, Bool.true_and, Bool.false_and, Option.some.injEq, D.int.injEq, exists_eq_left', exists_eq_left, W_listT, List.set_set, lt_push, len_lt, List.getElem?_append_left, W_fldC, W_setFC, W_clsC, W_methC, W_lenC, W_ixC, W_ixTO, W_isLstC, W_appC, W_listC, W_tupC, W_truC, W_slC, W_slTT, W_addTT, W_addC, W_setIC, W_getIC, W_delC, W_isDctC, W_dgetC, W_dictC, W_dict0, W_eqS, W_neS, W_eqB, W_neB, W_meth, W_make, W_setF, W_augF, W_callK, W_chain, W_chainT, W_del, W_gSub, W_augI, W_get1, W_srcC, WCell_some, WO_some, at0, at1, at2, at3, at4, at5, ix0, ix1, at_nat, memS, lookF, putFD, String.reduceEq, String.reduceBEq, if_true, if_false, Bool.false_eq_true, Option.isNone_none, true_and, and_true, and_self, get_push, isNonD, Bool.not_true, Bool.not_false, cs_from_first, cs_own, cs_others, cs_spare, cs_locks, cs_closed, sl, s0, s1, s2, s3, s4]
    refine draw_move_law hd fun m ha Fa hda => ?_
    have ea := Fa.keep e (by simp) (by omega)
    have la := get_lt ea
    simp (maxDischargeDepth := 9) only [W_seq, W_asg, W_set, W_V, WV_some, W_C, W_op, W_cmpT, W_isB, W_un, W_tru, W_andT, W_orT, W_notT, W_andV, W_orV, W_notV, W_ife, W_nil, W_cons, W_tup, W_lst, W_addI, W_subI, W_iaddI, W_negI, W_mulI, W_fdivI, W_modI, W_powI, W_cmpI, W_isB_bl, W_isNB, W_isN, W_isntB, W_isntN, W_eqI, W_neI, W_pass, W_brk, W_cont, W_drop, W_rt, W_rtN, W_ifS, W_gsNil, W_gsCons, W_gTup, W_aug, W_call, W_B, RtN_rt, RtN_nx, W_abs, W_intI, W_intB, W_noPart, W_part, W_sl, W_lm, W_lm0, W_iter, W_range1, W_range2, W_forE, W_revE, W_compE, W_yes, W_lenT, W_truB, W_truI, List.append_nil, List.getElem?_cons_zero, List.getElem?_cons_succ, List.set_cons_zero, List.set_cons_succ, List.getElem?_set_self, List.getElem?_set_ne, lt_set, ne_eq, Nat.reduceEqDiff, not_false_eq_true, Nat.reduceLT, Nat.zero_ne_one, Nat.one_ne_zero, Nat.lt_add_one, Nat.zero_lt_succ, startD, List.map_cons, List.map_nil, List.length_cons, List.length_nil, List.cons_append, List.nil_append, Nat.reduceAdd, Nat.reduceSub, Nat.zero_add, List.replicate_succ, List.replicate_zero, W_inSC, List.all_cons, List.all_nil, flatD, List.any_cons, List.any_nil, eqF, Bool.and_true, Bool.or_false, Bool.or_true, Bool.true_or, Bool.false_or, Bool.true_and, Bool.false_and, Option.some.injEq, D.int.injEq, exists_eq_left', exists_eq_left, W_listT, List.set_set, lt_push, len_lt, List.getElem?_append_left, W_fldC, W_setFC, W_clsC, W_methC, W_lenC, W_ixC, W_ixTO, W_isLstC, W_appC, W_listC, W_tupC, W_truC, W_slC, W_slTT, W_addTT, W_addC, W_setIC, W_getIC, W_delC, W_isDctC, W_dgetC, W_dictC, W_dict0, W_eqS, W_neS, W_eqB, W_neB, W_meth, W_make, W_setF, W_augF, W_callK, W_chain, W_chainT, W_del, W_gSub, W_augI, W_get1, W_srcC, WCell_some, WO_some, at0, at1, at2, at3, at4, at5, ix0, ix1, at_nat, memS, lookF, putFD, String.reduceEq, String.reduceBEq, if_true, if_false, Bool.false_eq_true, Option.isNone_none, true_and, and_true, and_self, get_push, isNonD, Bool.not_true, Bool.not_false, cs_from_first, cs_own, cs_others, cs_spare, cs_locks, cs_closed, sl, s0, s1, s2, s3, s4, ea, List.length_map]
    by_cases c : (ms.length : Int) < many
    · simp (maxDischargeDepth := 9) only [c, decide_true, W_seq, W_asg, W_set, W_V, WV_some, W_C, W_op, W_cmpT, W_isB, W_un, W_tru, W_andT, W_orT, W_notT, W_andV, W_orV, W_notV, W_ife, W_nil, W_cons, W_tup, W_lst, W_addI, W_subI, W_iaddI, W_negI, W_mulI, W_fdivI, W_modI, W_powI, W_cmpI, W_isB_bl, W_isNB, W_isN, W_isntB, W_isntN, W_eqI, W_neI, W_pass, W_brk, W_cont, W_drop, W_rt, W_rtN, W_ifS, W_gsNil, W_gsCons, W_gTup, W_aug, W_call, W_B, RtN_rt, RtN_nx, W_abs, W_intI, W_intB, W_noPart, W_part, W_sl, W_lm, W_lm0, W_iter, W_range1, W_range2, W_forE, W_revE, W_compE, W_yes, W_lenT, W_truB, W_truI, List.append_nil, List.getElem?_cons_zero, List.getElem?_cons_succ, List.set_cons_zero, List.set_cons_succ, List.getElem?_set_self, List.getElem?_set_ne, lt_set, ne_eq, Nat.reduceEqDiff, not_false_eq_true, Nat.reduceLT, Nat.zero_ne_one, Nat.one_ne_zero, Nat.lt_add_one, Nat.zero_lt_succ, startD, List.map_cons, List.map_nil, List.length_cons, List.length_nil, List.cons_append, List.nil_append, Nat.reduceAdd, Nat.reduceSub, Nat.zero_add, List.replicate_succ, List.replicate_zero, W_inSC, List.all_cons, List.all_nil, flatD, List.any_cons, List.any_nil, eqF, Bool.and_true, Bool.or_false, Bool.or_true, Bool.true_or, Bool.false_or, Bool.true_and, Bool.false_and, Option.some.injEq, D.int.injEq, exists_eq_left', exists_eq_left, W_listT, List.set_set, lt_push, len_lt, List.getElem?_append_left, W_fldC, W_setFC, W_clsC, W_methC, W_lenC, W_ixC, W_ixTO, W_isLstC, W_appC, W_listC, W_tupC, W_truC, W_slC, W_slTT, W_addTT, W_addC, W_setIC, W_getIC, W_delC, W_isDctC, W_dgetC, W_dictC, W_dict0, W_eqS, W_neS, W_eqB, W_neB, W_meth, W_make, W_setF, W_augF, W_callK, W_chain, W_chainT, W_del, W_gSub, W_augI, W_get1, W_srcC, WCell_some, WO_some, at0, at1, at2, at3, at4, at5, ix0, ix1, at_nat, memS, lookF, putFD, String.reduceEq, String.reduceBEq, if_true, if_false, Bool.false_eq_true, Option.isNone_none, true_and, and_true, and_self, get_push, isNonD, Bool.not_true, Bool.not_false, cs_from_first, cs_own, cs_others, cs_spare, cs_locks, cs_closed, sl, s0, s1, s2, s3, s4, ea, la, List.length_map]
      refine ⟨by decide, by show _ ≤ 1000000; omega, ?_⟩
      refine moved_law (ms := ms ++ [m]) (by rw [get_push]; simp) (by have := hda.lt; rw [List.length_append]; omega) (by have := hda.lt; rw [List.length_append, List.length_append]; omega) sz fun hb Fb => ?_
      have eb := Fb.keep (get_pushL (get_pushL ea)) (by simp) (by omega)
      have lb := get_lt eb
      have F3 := (((F.trans Fa).trans .push).trans .push).trans Fb
      have hdb := Fb.dk (Fr.push (S := []).dk (Fr.push (S := []).dk hda))
      cases hx : nx s (ms ++ [m]) c1 c2 with
      | none =>
        simp (maxDischargeDepth := 9) only [oD, W_seq, W_asg, W_set, W_V, WV_some, W_C, W_op, W_cmpT, W_isB, W_un, W_tru, W_andT, W_orT, W_notT, W_andV, W_orV, W_notV, W_ife, W_nil, W_cons, W_tup, W_lst, W_addI, W_subI, W_iaddI, W_negI, W_mulI, W_fdivI, W_modI, W_powI, W_cmpI, W_isB_bl, W_isNB, W_isN, W_isntB, W_isntN, W_eqI, W_neI, W_pass, W_brk, W_cont, W_drop, W_rt, W_rtN, W_ifS, W_gsNil, W_gsCons, W_gTup, W_aug, W_call, W_B, RtN_rt, RtN_nx, W_abs, W_intI, W_intB, W_noPart, W_part, W_sl, W_lm, W_lm0, W_iter, W_range1, W_range2, W_forE, W_revE, W_compE, W_yes, W_lenT, W_truB, W_truI, List.append_nil, List.getElem?_cons_zero, List.getElem?_cons_succ, List.set_cons_zero, List.set_cons_succ, List.getElem?_set_self, List.getElem?_set_ne, lt_set, ne_eq, Nat.reduceEqDiff, not_false_eq_true, Nat.reduceLT, Nat.zero_ne_one, Nat.one_ne_zero, Nat.lt_add_one, Nat.zero_lt_succ, startD, List.map_cons, List.map_nil, List.length_cons, List.length_nil, List.cons_append, List.nil_append, Nat.reduceAdd, Nat.reduceSub, Nat.zero_add, List.replicate_succ, List.replicate_zero, W_inSC, List.all_cons, List.all_nil, flatD, List.any_cons, List.any_nil, eqF, Bool.and_true, Bool.or_false, Bool.or_true, Bool.true_or, Bool.false_or, Bool.true_and, Bool.false_and, Option.some.injEq, D.int.injEq, exists_eq_left', exists_eq_left, W_listT, List.set_set, lt_push, len_lt, List.getElem?_append_left, W_fldC, W_setFC, W_clsC, W_methC, W_lenC, W_ixC, W_ixTO, W_isLstC, W_appC, W_listC, W_tupC, W_truC, W_slC, W_slTT, W_addTT, W_addC, W_setIC, W_getIC, W_delC, W_isDctC, W_dgetC, W_dictC, W_dict0, W_eqS, W_neS, W_eqB, W_neB, W_meth, W_make, W_setF, W_augF, W_callK, W_chain, W_chainT, W_del, W_gSub, W_augI, W_get1, W_srcC, WCell_some, WO_some, at0, at1, at2, at3, at4, at5, ix0, ix1, at_nat, memS, lookF, putFD, String.reduceEq, String.reduceBEq, if_true, if_false, Bool.false_eq_true, Option.isNone_none, true_and, and_true, and_self, get_push, isNonD, Bool.not_true, Bool.not_false, cs_from_first, cs_own, cs_others, cs_spare, cs_locks, cs_closed, sl, s0, s1, s2, s3, s4]
        rw [hI]; exact ⟨by simp [sl], by simp [s0], by simp [s1], by simp [s2], by simp [s3], by simp [s4], F3, hdb, ms, eb, hl, hn⟩
      | some t =>
        simp (maxDischargeDepth := 9) only [oD, sD, W_seq, W_asg, W_set, W_V, WV_some, W_C, W_op, W_cmpT, W_isB, W_un, W_tru, W_andT, W_orT, W_notT, W_andV, W_orV, W_notV, W_ife, W_nil, W_cons, W_tup, W_lst, W_addI, W_subI, W_iaddI, W_negI, W_mulI, W_fdivI, W_modI, W_powI, W_cmpI, W_isB_bl, W_isNB, W_isN, W_isntB, W_isntN, W_eqI, W_neI, W_pass, W_brk, W_cont, W_drop, W_rt, W_rtN, W_ifS, W_gsNil, W_gsCons, W_gTup, W_aug, W_call, W_B, RtN_rt, RtN_nx, W_abs, W_intI, W_intB, W_noPart, W_part, W_sl, W_lm, W_lm0, W_iter, W_range1, W_range2, W_forE, W_revE, W_compE, W_yes, W_lenT, W_truB, W_truI, List.append_nil, List.getElem?_cons_zero, List.getElem?_cons_succ, List.set_cons_zero, List.set_cons_succ, List.getElem?_set_self, List.getElem?_set_ne, lt_set, ne_eq, Nat.reduceEqDiff, not_false_eq_true, Nat.reduceLT, Nat.zero_ne_one, Nat.one_ne_zero, Nat.lt_add_one, Nat.zero_lt_succ, startD, List.map_cons, List.map_nil, List.length_cons, List.length_nil, List.cons_append, List.nil_append, Nat.reduceAdd, Nat.reduceSub, Nat.zero_add, List.replicate_succ, List.replicate_zero, W_inSC, List.all_cons, List.all_nil, flatD, List.any_cons, List.any_nil, eqF, Bool.and_true, Bool.or_false, Bool.or_true, Bool.true_or, Bool.false_or, Bool.true_and, Bool.false_and, Option.some.injEq, D.int.injEq, exists_eq_left', exists_eq_left, W_listT, List.set_set, lt_push, len_lt, List.getElem?_append_left, W_fldC, W_setFC, W_clsC, W_methC, W_lenC, W_ixC, W_ixTO, W_isLstC, W_appC, W_listC, W_tupC, W_truC, W_slC, W_slTT, W_addTT, W_addC, W_setIC, W_getIC, W_delC, W_isDctC, W_dgetC, W_dictC, W_dict0, W_eqS, W_neS, W_eqB, W_neB, W_meth, W_make, W_setF, W_augF, W_callK, W_chain, W_chainT, W_del, W_gSub, W_augI, W_get1, W_srcC, WCell_some, WO_some, at0, at1, at2, at3, at4, at5, ix0, ix1, at_nat, memS, lookF, putFD, String.reduceEq, String.reduceBEq, if_true, if_false, Bool.false_eq_true, Option.isNone_none, true_and, and_true, and_self, get_push, isNonD, Bool.not_true, Bool.not_false, cs_from_first, cs_own, cs_others, cs_spare, cs_locks, cs_closed, sl, s0, s1, s2, s3, s4, eb, lb, List.length_map]
        refine ⟨by show _ < 1000000; omega, ?_⟩
        have W1 : Fr [h.length] hb (hb.set h.length (.lst (ms.map mD ++ [mD m]))) := .write (by simp) (by omega)
        rw [hI]; refine ⟨by simp [sl], by simp [s0], by simp [s1, sD], by simp [s2], by simp [s3], by simp [s4], Fr.fresh (n := h.length) ((F3.mono fun _ _ z => by cases z).trans W1) (Nat.le_refl _), W1.dk hdb, ms ++ [m], ?_, by simp; omega, by rw [hx]; exact fun z => by cases z⟩
        rw [get_set eb]; simp
    · simp (maxDischargeDepth := 9) only [c, decide_false, W_seq, W_asg, W_set, W_V, WV_some, W_C, W_op, W_cmpT, W_isB, W_un, W_tru, W_andT, W_orT, W_notT, W_andV, W_orV, W_notV, W_ife, W_nil, W_cons, W_tup, W_lst, W_addI, W_subI, W_iaddI, W_negI, W_mulI, W_fdivI, W_modI, W_powI, W_cmpI, W_isB_bl, W_isNB, W_isN, W_isntB, W_isntN, W_eqI, W_neI, W_pass, W_brk, W_cont, W_drop, W_rt, W_rtN, W_ifS, W_gsNil, W_gsCons, W_gTup, W_aug, W_call, W_B, RtN_rt, RtN_nx, W_abs, W_intI, W_intB, W_noPart, W_part, W_sl, W_lm, W_lm0, W_iter, W_range1, W_range2, W_forE, W_revE, W_compE, W_yes, W_lenT, W_truB, W_truI, List.append_nil, List.getElem?_cons_zero, List.getElem?_cons_succ, List.set_cons_zero, List.set_cons_succ, List.getElem?_set_self, List.getElem?_set_ne, lt_set, ne_eq, Nat.reduceEqDiff, not_false_eq_true, Nat.reduceLT, Nat.zero_ne_one, Nat.one_ne_zero, Nat.lt_add_one, Nat.zero_lt_succ, startD, List.map_cons, List.map_nil, List.length_cons, List.length_nil, List.cons_append, List.nil_append, Nat.reduceAdd, Nat.reduceSub, Nat.zero_add, List.replicate_succ, List.replicate_zero, W_inSC, List.all_cons, List.all_nil, flatD, List.any_cons, List.any_nil, eqF, Bool.and_true, Bool.or_false, Bool.or_true, Bool.true_or, Bool.false_or, Bool.true_and, Bool.false_and, Option.some.injEq, D.int.injEq, exists_eq_left', exists_eq_left, W_listT, List.set_set, lt_push, len_lt, List.getElem?_append_left, W_fldC, W_setFC, W_clsC, W_methC, W_lenC, W_ixC, W_ixTO, W_isLstC, W_appC, W_listC, W_tupC, W_truC, W_slC, W_slTT, W_addTT, W_addC, W_setIC, W_getIC, W_delC, W_isDctC, W_dgetC, W_dictC, W_dict0, W_eqS, W_neS, W_eqB, W_neB, W_meth, W_make, W_setF, W_augF, W_callK, W_chain, W_chainT, W_del, W_gSub, W_augI, W_get1, W_srcC, WCell_some, WO_some, at0, at1, at2, at3, at4, at5, ix0, ix1, at_nat, memS, lookF, putFD, String.reduceEq, String.reduceBEq, if_true, if_false, Bool.false_eq_true, Option.isNone_none, true_and, and_true, and_self, get_push, isNonD, Bool.not_true, Bool.not_false, cs_from_first, cs_own, cs_others, cs_spare, cs_locks, cs_closed, sl, s0, s1, s2, s3, s4]
      rw [hI]; exact ⟨by simp [sl], by simp [s0], by simp [s1], by simp [s2], by simp [s3], by simp [s4], F.trans Fa, hda, ms, ea, hl, hn⟩
  · intro σ h' z
    rw [hI] at z
    obtain ⟨sl, s0, s1, s2, s3, s4, F, hd, ms, e, hl, hn⟩ := z
    simp (maxDischargeDepth := 9) only [W_seq, W_asg, W_set, W_V, WV_some, W_C, W_op, W_cmpT, W_isB, W_un, W_tru, W_andT, W_orT, W_notT, W_andV, W_orV, W_notV, W_ife, W_nil, W_cons, W_tup, W_lst, W_addI, W_subI, W_iaddI, W_negI, W_mulI, W_fdivI, W_modI, W_powI, W_cmpI, W_isB_bl, W_isNB, W_isN, W_isntB, W_isntN, W_eqI, W_neI, W_pass, W_brk, W_cont, W_drop, W_rt, W_rtN, W_ifS, W_gsNil, W_gsCons, W_gTup, W_aug, W_call, W_B, RtN_rt, RtN_nx, W_abs, W_intI, W_intB, W_noPart, W_part, W_sl, W_lm, W_lm0, W_iter, W_range1, W_range2, W_forE, W_revE, W_compE, W_yes, W_lenT, W_truB, W_truI, List.append_nil, List.getElem?_cons_zero, List.getElem?_cons_succ, List.set_cons_zero, List.set_cons_succ, List.getElem?_set_self, List.getElem?_set_ne, lt_set, ne_eq, Nat.reduceEqDiff, not_false_eq_true, Nat.reduceLT, Nat.zero_ne_one, Nat.one_ne_zero, Nat.lt_add_one, Nat.zero_lt_succ, startD, List.map_cons, List.map_nil, List.length_cons, List.length_nil, List.cons_append, List.nil_append, Nat.reduceAdd, Nat.reduceSub, Nat.zero_add, List.replicate_succ, List.replicate_zero, W_inSC, List.all_cons, List.all_nil, flatD, List.any_cons, List.any_nil, eqF, Bool.and_true, Bool.or_false, Bool.or_true, Bool.true_or, Bool.false_or, Bool.true_and, Bool.false_and, Option.some.injEq, D.int.injEq, exists_eq_left', exists_eq_left, W_listT, List.set_set, lt_push, len_lt, List.getElem?_append_left, W_fldC, W_setFC, W_clsC, W_methC, W_lenC, W_ixC, W_ixTO, W_isLstC, W_appC, W_listC, W_tupC, W_truC, W_slC, W_slTT, W_addTT, W_addC, W_setIC, W_getIC, W_delC, W_isDctC, W_dgetC, W_dictC, W_dict0, W_eqS, W_neS, W_eqB, W_neB, W_meth, W_make, W_setF, W_augF, W_callK, W_chain, W_chainT, W_del, W_gSub, W_augI, W_get1, W_srcC, WCell_some, WO_some, at0, at1, at2, at3, at4, at5, ix0, ix1, at_nat, memS, lookF, putFD, String.reduceEq, String.reduceBEq, if_true, if_false, Bool.false_eq_true, Option.isNone_none, true_and, and_true, and_self, get_push, isNonD, Bool.not_true, Bool.not_false, cs_from_first, cs_own, cs_others, cs_spare, cs_locks, cs_closed, sl, s4]
    exact q ms _ _ F hd (by omega) e hl hn
end
end Lk00

set_option Elab.async false
set_option linter.all false
set_option autoImplicit false
set_option maxRecDepth 100000
set_option maxHeartbeats 4000000
namespace Lk00
open Dt PySem
/-! ### trees of states and moves; what steps do -/
def lP (l : Lk) : PyData := .tuple [.int l.key, .int l.amt, .int l.dl, .bool l.mine]
def sP (s : Stt) : PyData := .tuple [.int s.ch, .int s.num, .int s.a, .int s.b, .tuple (s.locks.map lP), .bool s.cl]
def oP : Option Stt → PyData
  | none => .none
  | some s => sP s
def mP : Mv → PyData
  | .lock k a d => .tuple [.str (Str.ofString "lock"), .int k, .int a, .int d]
  | .paid p s => .tuple [.str (Str.ofString "paid"), .int (p : Nat), .int s]
  | .dropped p => .tuple [.str (Str.ofString "dropped"), .int (p : Nat)]
  | .back p => .tuple [.str (Str.ofString "back"), .int (p : Nat)]
  | .transfer a => .tuple [.str (Str.ofString "transfer"), .int a]
  | .finish => .tuple [.str (Str.ofString "finish")]
section
variable {h : Hd} {Q : D → Hd → Prop}
theorem rp_locks {lo d : Nat} {ls : List Lk} (hl : ls.length ≤ 12) : Rp lo 12 h (d + 3) (.tup (ls.map lD)) (.tuple (ls.map lP)) :=
  ⟨_, rfl, by simpa using hl, All2.map (fun c => ⟨_, rfl, by show 4 ≤ 12; decide, .cons rfl (.cons rfl (.cons rfl (.cons rfl .nil)))⟩) ls⟩
theorem rp_state {lo d : Nat} {s : Stt} (hl : s.locks.length ≤ 12) : Rp lo 12 h (d + 4) (sD s) (sP s) :=
  ⟨_, rfl, by show 6 ≤ 12; decide, .cons rfl (.cons rfl (.cons rfl (.cons rfl (.cons (rp_locks hl) (.cons rfl .nil)))))⟩
theorem rp_o {lo d : Nat} {o : Option Stt} (hl : ∀ s, o = some s → s.locks.length ≤ 12) : Rp lo 12 h (d + 4) (oD o) (oP o) := by
  cases o with
  | none => rfl
  | some s => exact rp_state (hl s rfl)
theorem rp_move {lo d : Nat} {m : Mv} : Rp lo 12 h (d + 2) (mD m) (mP m) := by
  cases m with
  | lock k a dl => exact ⟨_, rfl, by show 4 ≤ 12; decide, .cons ⟨_, rfl, rfl⟩ (.cons rfl (.cons rfl (.cons rfl .nil)))⟩
  | paid p s => exact ⟨_, rfl, by show 3 ≤ 12; decide, .cons ⟨_, rfl, rfl⟩ (.cons rfl (.cons rfl .nil))⟩
  | dropped p => exact ⟨_, rfl, by show 2 ≤ 12; decide, .cons ⟨_, rfl, rfl⟩ (.cons rfl .nil)⟩
  | back p => exact ⟨_, rfl, by show 2 ≤ 12; decide, .cons ⟨_, rfl, rfl⟩ (.cons rfl .nil)⟩
  | transfer a => exact ⟨_, rfl, by show 2 ≤ 12; decide, .cons ⟨_, rfl, rfl⟩ (.cons rfl .nil)⟩
  | finish => exact ⟨_, rfl, by show 1 ≤ 12; decide, .cons ⟨_, rfl, rfl⟩ .nil⟩
theorem rp_moves {n : Nat} {ms : List Mv} (hn : 2 ≤ n) (e : h[n]? = some (.lst (ms.map mD))) (hl : ms.length ≤ 12) : Rp 2 12 h 3 (.ref n) (.list (ms.map mP)) :=
  ⟨n, _, rfl, ⟨hn, by omega⟩, e, by simpa using hl, All2.map (fun c => rp_move) ms⟩
theorem W_nin {x : D} {n : Nat} {xs : List D} {d : PyData} {ds : List PyData} (e1 : h[n]? = some (.lst xs)) (hf : flatD x = false) (t1 : toPy h DEEP x = some d) (t2 : toPy h DEEP (.ref n) = some (.list ds)) (s1 : SeqAt.shaped d = true) (s2 : SeqAt.shaped (.list ds) = true) :
    W (ninM x (.ref n)) h Q = Q (.bl (!(ds.any fun z => PyData.eqv z d))) h :=
  W_some (by simp only [ninM, inB, itemsOf, e1, hf, t1, t2, s1, s2, and_self, if_true, Bool.false_eq_true, false_and, if_false])
end
theorem mks_app {ff : Bool} {sp : Int} : ∀ (xs : List Mv) (d : Dr) (ys : List Mv), mks ff sp d (xs ++ ys) = (mks ff sp d xs).bind fun d' => mks ff sp d' ys
  | [], d, ys => rfl
  | x :: xs, d, ys => by
    simp only [List.cons_append, mks]
    cases mk ff sp d x with
    | none => rfl
    | some d' => exact mks_app xs d' ys
theorem mks_sz {ff : Bool} {sp : Int} : ∀ (ms : List Mv) {d d' : Dr}, mks ff sp d ms = some d' → d.locks.length ≤ 8 → d'.locks.length ≤ 8
  | [], d, d', e, h => by simp only [mks] at e; cases e; exact h
  | m :: ms, d, d', e, h => by
    simp only [mks] at e
    cases e1 : mk ff sp d m with
    | none => rw [e1] at e; cases e
    | some d1 => rw [e1] at e; exact mks_sz ms e ((mk_len e1).2 h)
theorem nx_sz {s t : Stt} {ms : List Mv} {c1 c2 : Int} (e : nx s ms c1 c2 = some t) (h : s.locks.length ≤ 8) : t.locks.length ≤ 8 := by
  unfold nx at e
  split at e
  · cases e
  · cases e1 : mks (ffP s) (spP s c1 c2) (start s) ms with
    | none => rw [e1] at e; cases e
    | some d => rw [e1] at e; cases e; exact mks_sz ms e1 h
theorem mk_cl {ff : Bool} {sp : Int} {d d' : Dr} {m : Mv} (e : mk ff sp d m = some d') (hm : m ≠ .finish) : d'.cl = d.cl := by
  cases m <;> simp only [mk] at e
  · split at e <;> cases e; rfl
  · split at e
    · cases e
    · split at e <;> cases e; rfl
  · split at e
    · cases e
    · split at e <;> cases e; rfl
  · split at e
    · cases e
    · split at e <;> cases e; rfl
  · split at e <;> cases e; rfl
  · exact absurd rfl hm
theorem mks_cl {ff : Bool} {sp : Int} : ∀ (ms : List Mv) {d d' : Dr}, mks ff sp d ms = some d' → (∀ m ∈ ms, m ≠ .finish) → d'.cl = d.cl
  | [], d, d', e, h => by simp only [mks] at e; cases e; rfl
  | m :: ms, d, d', e, h => by
    simp only [mks] at e
    cases e1 : mk ff sp d m with
    | none => rw [e1] at e; cases e
    | some d1 => rw [e1] at e; exact (mks_cl ms e fun x hx => h x (List.mem_cons_of_mem _ hx)).trans (mk_cl e1 (h m List.mem_cons_self))
end Lk00

set_option Elab.async false
set_option linter.all false
set_option autoImplicit false
set_option maxRecDepth 100000
set_option maxHeartbeats 4000000
namespace Lk00
open Dt PySem
/-! ### worth under receipts -/
def rK (rs : List (Int × Int)) : List (L2.Key × D) := rs.map fun p => (.inl p.1, .int p.2)
def lookR (k : Int) : List (Int × Int) → Option Int
  | [] => none
  | p :: r => if p.1 = k then some p.2 else lookR k r
def putR (rs : List (Int × Int)) (k v : Int) : List (Int × Int) := if (rs.any fun p => decide (p.1 = k)) = true then rs.map (fun p => if p.1 = k then (p.1, v) else p) else rs ++ [(k, v)]
theorem look_rK (k : Int) : ∀ rs, look (.inl k) (rK rs) = (lookR k rs).map D.int
  | [] => rfl
  | p :: r => by
    have ih := look_rK k r
    unfold rK at ih ⊢
    simp only [List.map_cons, look, lookR, Sum.inl.injEq]
    split
    · rfl
    · exact ih
theorem put_rK (rs : List (Int × Int)) (k v : Int) : putD (rK rs) (.inl k) (.int v) = rK (putR rs k v) := by
  unfold putD putR rK
  simp only [List.any_map, Function.comp_def, Sum.inl.injEq]
  split
  · simp only [List.map_map]
    congr 1
    funext p
    simp only [Function.comp, Sum.inl.injEq]
    split <;> rfl
  · simp
theorem put_len (rs : List (Int × Int)) (k v : Int) : (putR rs k v).length ≤ rs.length + 1 := by
  unfold putR; split <;> simp
theorem take_snoc {α : Type} (xs : List α) (i : Nat) (hi : i < xs.length) : xs.take i ++ [xs[i]] = xs.take (i + 1) := by
  rw [List.take_succ, List.getElem?_eq_getElem hi]; rfl
def opn (rs : List (Int × Int)) (l : Lk) : Bool := match lookR l.key rs with
  | some t => decide (t ≤ l.dl)
  | none => false
def fA (rs : List (Int × Int)) (ls : List Lk) : Int := (ls.map fun l => if opn rs l == l.mine then 0 else l.amt).sum
def sB (rs : List (Int × Int)) (ls : List Lk) : Int := (ls.map fun l => if opn rs l == l.mine then l.amt else 0).sum
theorem fA_step (rs : List (Int × Int)) (ls : List Lk) (i : Nat) (hi : i < ls.length) : fA rs (ls.take (i + 1)) = fA rs (ls.take i) + (if opn rs ls[i] == ls[i].mine then 0 else ls[i].amt) := by
  unfold fA
  rw [← take_snoc ls i hi, List.map_append, List.sum_append]; simp
theorem sB_step (rs : List (Int × Int)) (ls : List Lk) (i : Nat) (hi : i < ls.length) : sB rs (ls.take (i + 1)) = sB rs (ls.take i) + (if opn rs ls[i] == ls[i].mine then ls[i].amt else 0) := by
  unfold sB
  rw [← take_snoc ls i hi, List.map_append, List.sum_append]; simp
section
variable {h : Hd} {Q : D → Hd → Prop}
theorem opened_law {l : Lk} {R : Nat} {rs : List (Int × Int)} (e : h[R]? = some (.dct (rK rs))) (q : Q (.bl (opn rs l)) h) : W (F_was_opened [lD l, .ref R]) h Q := by
  unfold F_was_opened B_was_opened
  refine w_run rfl ?_
  simp (maxDischargeDepth := 9) only [W_seq, W_asg, W_set, W_V, WV_some, W_C, W_op, W_cmpT, W_isB, W_un, W_tru, W_andT, W_orT, W_notT, W_andV, W_orV, W_notV, W_ife, W_nil, W_cons, W_tup, W_lst, W_addI, W_subI, W_iaddI, W_negI, W_mulI, W_fdivI, W_modI, W_powI, W_cmpI, W_isB_bl, W_isNB, W_isN, W_isntB, W_isntN, W_eqI, W_neI, W_pass, W_brk, W_cont, W_drop, W_rt, W_rtN, W_ifS, W_gsNil, W_gsCons, W_gTup, W_aug, W_call, W_B, RtN_rt, RtN_nx, W_abs, W_intI, W_intB, W_noPart, W_part, W_sl, W_lm, W_lm0, W_iter, W_range1, W_range2, W_forE, W_revE, W_compE, W_yes, W_lenT, W_truB, W_truI, List.append_nil, List.getElem?_cons_zero, List.getElem?_cons_succ, List.set_cons_zero, List.set_cons_succ, List.getElem?_set_self, List.getElem?_set_ne, lt_set, ne_eq, Nat.reduceEqDiff, not_false_eq_true, Nat.reduceLT, Nat.zero_ne_one, Nat.one_ne_zero, Nat.lt_add_one, Nat.zero_lt_succ, startD, List.map_cons, List.map_nil, List.length_cons, List.length_nil, List.cons_append, List.nil_append, Nat.reduceAdd, Nat.reduceSub, Nat.zero_add, List.replicate_succ, List.replicate_zero, W_inSC, List.all_cons, List.all_nil, flatD, List.any_cons, List.any_nil, eqF, Bool.and_true, Bool.or_false, Bool.or_true, Bool.true_or, Bool.false_or, Bool.true_and, Bool.false_and, Option.some.injEq, D.int.injEq, exists_eq_left', exists_eq_left, W_listT, List.set_set, lt_push, len_lt, List.getElem?_append_left, W_fldC, W_setFC, W_clsC, W_methC, W_lenC, W_ixC, W_ixTO, W_isLstC, W_appC, W_listC, W_tupC, W_truC, W_slC, W_slTT, W_addTT, W_addC, W_setIC, W_getIC, W_delC, W_isDctC, W_dgetC, W_dictC, W_dict0, W_eqS, W_neS, W_eqB, W_neB, W_meth, W_make, W_setF, W_augF, W_callK, W_chain, W_chainT, W_del, W_gSub, W_augI, W_get1, W_srcC, WCell_some, WO_some, at0, at1, at2, at3, at4, at5, ix0, ix1, at_nat, memS, lookF, putFD, String.reduceEq, String.reduceBEq, if_true, if_false, Bool.false_eq_true, Option.isNone_none, true_and, and_true, and_self, get_push, isNonD, Bool.not_true, Bool.not_false, cs_from_first, cs_own, cs_others, cs_spare, cs_locks, cs_closed, e, lD, look_rK]
  unfold opn at q
  cases hl : lookR l.key rs with
  | none =>
    simp (maxDischargeDepth := 9) only [hl, Option.map_none, Option.getD_none, W_seq, W_asg, W_set, W_V, WV_some, W_C, W_op, W_cmpT, W_isB, W_un, W_tru, W_andT, W_orT, W_notT, W_andV, W_orV, W_notV, W_ife, W_nil, W_cons, W_tup, W_lst, W_addI, W_subI, W_iaddI, W_negI, W_mulI, W_fdivI, W_modI, W_powI, W_cmpI, W_isB_bl, W_isNB, W_isN, W_isntB, W_isntN, W_eqI, W_neI, W_pass, W_brk, W_cont, W_drop, W_rt, W_rtN, W_ifS, W_gsNil, W_gsCons, W_gTup, W_aug, W_call, W_B, RtN_rt, RtN_nx, W_abs, W_intI, W_intB, W_noPart, W_part, W_sl, W_lm, W_lm0, W_iter, W_range1, W_range2, W_forE, W_revE, W_compE, W_yes, W_lenT, W_truB, W_truI, List.append_nil, List.getElem?_cons_zero, List.getElem?_cons_succ, List.set_cons_zero, List.set_cons_succ, List.getElem?_set_self, List.getElem?_set_ne, lt_set, ne_eq, Nat.reduceEqDiff, not_false_eq_true, Nat.reduceLT, Nat.zero_ne_one, Nat.one_ne_zero, Nat.lt_add_one, Nat.zero_lt_succ, startD, List.map_cons, List.map_nil, List.length_cons, List.length_nil, List.cons_append, List.nil_append, Nat.reduceAdd, Nat.reduceSub, Nat.zero_add, List.replicate_succ, List.replicate_zero, W_inSC, List.all_cons, List.all_nil, flatD, List.any_cons, List.any_nil, eqF, Bool.and_true, Bool.or_false, Bool.or_true, Bool.true_or, Bool.false_or, Bool.true_and, Bool.false_and, Option.some.injEq, D.int.injEq, exists_eq_left', exists_eq_left, W_listT, List.set_set, lt_push, len_lt, List.getElem?_append_left, W_fldC, W_setFC, W_clsC, W_methC, W_lenC, W_ixC, W_ixTO, W_isLstC, W_appC, W_listC, W_tupC, W_truC, W_slC, W_slTT, W_addTT, W_addC, W_setIC, W_getIC, W_delC, W_isDctC, W_dgetC, W_dictC, W_dict0, W_eqS, W_neS, W_eqB, W_neB, W_meth, W_make, W_setF, W_augF, W_callK, W_chain, W_chainT, W_del, W_gSub, W_augI, W_get1, W_srcC, WCell_some, WO_some, at0, at1, at2, at3, at4, at5, ix0, ix1, at_nat, memS, lookF, putFD, String.reduceEq, String.reduceBEq, if_true, if_false, Bool.false_eq_true, Option.isNone_none, true_and, and_true, and_self, get_push, isNonD, Bool.not_true, Bool.not_false, cs_from_first, cs_own, cs_others, cs_spare, cs_locks, cs_closed] at q ⊢
    exact q
  | some t =>
    simp (maxDischargeDepth := 9) only [hl, Option.map_some, Option.getD_some, W_seq, W_asg, W_set, W_V, WV_some, W_C, W_op, W_cmpT, W_isB, W_un, W_tru, W_andT, W_orT, W_notT, W_andV, W_orV, W_notV, W_ife, W_nil, W_cons, W_tup, W_lst, W_addI, W_subI, W_iaddI, W_negI, W_mulI, W_fdivI, W_modI, W_powI, W_cmpI, W_isB_bl, W_isNB, W_isN, W_isntB, W_isntN, W_eqI, W_neI, W_pass, W_brk, W_cont, W_drop, W_rt, W_rtN, W_ifS, W_gsNil, W_gsCons, W_gTup, W_aug, W_call, W_B, RtN_rt, RtN_nx, W_abs, W_intI, W_intB, W_noPart, W_part, W_sl, W_lm, W_lm0, W_iter, W_range1, W_range2, W_forE, W_revE, W_compE, W_yes, W_lenT, W_truB, W_truI, List.append_nil, List.getElem?_cons_zero, List.getElem?_cons_succ, List.set_cons_zero, List.set_cons_succ, List.getElem?_set_self, List.getElem?_set_ne, lt_set, ne_eq, Nat.reduceEqDiff, not_false_eq_true, Nat.reduceLT, Nat.zero_ne_one, Nat.one_ne_zero, Nat.lt_add_one, Nat.zero_lt_succ, startD, List.map_cons, List.map_nil, List.length_cons, List.length_nil, List.cons_append, List.nil_append, Nat.reduceAdd, Nat.reduceSub, Nat.zero_add, List.replicate_succ, List.replicate_zero, W_inSC, List.all_cons, List.all_nil, flatD, List.any_cons, List.any_nil, eqF, Bool.and_true, Bool.or_false, Bool.or_true, Bool.true_or, Bool.false_or, Bool.true_and, Bool.false_and, Option.some.injEq, D.int.injEq, exists_eq_left', exists_eq_left, W_listT, List.set_set, lt_push, len_lt, List.getElem?_append_left, W_fldC, W_setFC, W_clsC, W_methC, W_lenC, W_ixC, W_ixTO, W_isLstC, W_appC, W_listC, W_tupC, W_truC, W_slC, W_slTT, W_addTT, W_addC, W_setIC, W_getIC, W_delC, W_isDctC, W_dgetC, W_dictC, W_dict0, W_eqS, W_neS, W_eqB, W_neB, W_meth, W_make, W_setF, W_augF, W_callK, W_chain, W_chainT, W_del, W_gSub, W_augI, W_get1, W_srcC, WCell_some, WO_some, at0, at1, at2, at3, at4, at5, ix0, ix1, at_nat, memS, lookF, putFD, String.reduceEq, String.reduceBEq, if_true, if_false, Bool.false_eq_true, Option.isNone_none, true_and, and_true, and_self, get_push, isNonD, Bool.not_true, Bool.not_false, cs_from_first, cs_own, cs_others, cs_spare, cs_locks, cs_closed] at q ⊢
    exact q
theorem shares_law {ls : List Lk} {R : Nat} {rs : List (Int × Int)} (e : h[R]? = some (.dct (rK rs))) (hR : R ≠ 1) (q : Q (.tup [.int (fA rs ls), .int (sB rs ls)]) h) : W (F_lock_shares [.tup (ls.map lD), .ref R]) h Q := by
  unfold F_lock_shares B_lock_shares
  refine w_run rfl ?_
  simp (maxDischargeDepth := 9) only [W_seq, W_asg, W_set, W_V, WV_some, W_C, W_op, W_cmpT, W_isB, W_un, W_tru, W_andT, W_orT, W_notT, W_andV, W_orV, W_notV, W_ife, W_nil, W_cons, W_tup, W_lst, W_addI, W_subI, W_iaddI, W_negI, W_mulI, W_fdivI, W_modI, W_powI, W_cmpI, W_isB_bl, W_isNB, W_isN, W_isntB, W_isntN, W_eqI, W_neI, W_pass, W_brk, W_cont, W_drop, W_rt, W_rtN, W_ifS, W_gsNil, W_gsCons, W_gTup, W_aug, W_call, W_B, RtN_rt, RtN_nx, W_abs, W_intI, W_intB, W_noPart, W_part, W_sl, W_lm, W_lm0, W_iter, W_range1, W_range2, W_forE, W_revE, W_compE, W_yes, W_lenT, W_truB, W_truI, List.append_nil, List.getElem?_cons_zero, List.getElem?_cons_succ, List.set_cons_zero, List.set_cons_succ, List.getElem?_set_self, List.getElem?_set_ne, lt_set, ne_eq, Nat.reduceEqDiff, not_false_eq_true, Nat.reduceLT, Nat.zero_ne_one, Nat.one_ne_zero, Nat.lt_add_one, Nat.zero_lt_succ, startD, List.map_cons, List.map_nil, List.length_cons, List.length_nil, List.cons_append, List.nil_append, Nat.reduceAdd, Nat.reduceSub, Nat.zero_add, List.replicate_succ, List.replicate_zero, W_inSC, List.all_cons, List.all_nil, flatD, List.any_cons, List.any_nil, eqF, Bool.and_true, Bool.or_false, Bool.or_true, Bool.true_or, Bool.false_or, Bool.true_and, Bool.false_and, Option.some.injEq, D.int.injEq, exists_eq_left', exists_eq_left, W_listT, List.set_set, lt_push, len_lt, List.getElem?_append_left, W_fldC, W_setFC, W_clsC, W_methC, W_lenC, W_ixC, W_ixTO, W_isLstC, W_appC, W_listC, W_tupC, W_truC, W_slC, W_slTT, W_addTT, W_addC, W_setIC, W_getIC, W_delC, W_isDctC, W_dgetC, W_dictC, W_dict0, W_eqS, W_neS, W_eqB, W_neB, W_meth, W_make, W_setF, W_augF, W_callK, W_chain, W_chainT, W_del, W_gSub, W_augI, W_get1, W_srcC, WCell_some, WO_some, at0, at1, at2, at3, at4, at5, ix0, ix1, at_nat, memS, lookF, putFD, String.reduceEq, String.reduceBEq, if_true, if_false, Bool.false_eq_true, Option.isNone_none, true_and, and_true, and_self, get_push, isNonD, Bool.not_true, Bool.not_false, cs_from_first, cs_own, cs_others, cs_spare, cs_locks, cs_closed]
  rw [W_srcTp]
  obtain ⟨I, hI⟩ : ∃ I : Nat → Ev → Hd → Prop, ∀ i σ h', I i σ h' = (h' = h ∧ σ.length = 5 ∧ σ[1]? = some (some (.ref R)) ∧ σ[2]? = some (some (.int (fA rs (ls.take i)))) ∧ σ[3]? = some (some (.int (sB rs (ls.take i))))) := ⟨_, fun _ _ _ => rfl⟩
  refine w_forT I (by rw [hI]; exact ⟨rfl, by simp, by simp, by simp [fA], by simp [sB]⟩) ?_ ?_
  · intro i σ h' hi z
    rw [hI] at z
    obtain ⟨rfl, sl, s1, s2, s3⟩ := z
    have hi' : i < ls.length := by simpa using hi
    rw [List.getElem_map]
    have a1 := fA_step rs ls i hi'
    have a2 := sB_step rs ls i hi'
    generalize ls[i] = l at a1 a2
    unfold Turn L_lock_shares_0
    simp (maxDischargeDepth := 9) only [W_seq, W_asg, W_set, W_V, WV_some, W_C, W_op, W_cmpT, W_isB, W_un, W_tru, W_andT, W_orT, W_notT, W_andV, W_orV, W_notV, W_ife, W_nil, W_cons, W_tup, W_lst, W_addI, W_subI, W_iaddI, W_negI, W_mulI, W_fdivI, W_modI, W_powI, W_cmpI, W_isB_bl, W_isNB, W_isN, W_isntB, W_isntN, W_eqI, W_neI, W_pass, W_brk, W_cont, W_drop, W_rt, W_rtN, W_ifS, W_gsNil, W_gsCons, W_gTup, W_aug, W_call, W_B, RtN_rt, RtN_nx, W_abs, W_intI, W_intB, W_noPart, W_part, W_sl, W_lm, W_lm0, W_iter, W_range1, W_range2, W_forE, W_revE, W_compE, W_yes, W_lenT, W_truB, W_truI, List.append_nil, List.getElem?_cons_zero, List.getElem?_cons_succ, List.set_cons_zero, List.set_cons_succ, List.getElem?_set_self, List.getElem?_set_ne, lt_set, ne_eq, Nat.reduceEqDiff, not_false_eq_true, Nat.reduceLT, Nat.zero_ne_one, Nat.one_ne_zero, Nat.lt_add_one, Nat.zero_lt_succ, startD, List.map_cons, List.map_nil, List.length_cons, List.length_nil, List.cons_append, List.nil_append, Nat.reduceAdd, Nat.reduceSub, Nat.zero_add, List.replicate_succ, List.replicate_zero, W_inSC, List.all_cons, List.all_nil, flatD, List.any_cons, List.any_nil, eqF, Bool.and_true, Bool.or_false, Bool.or_true, Bool.true_or, Bool.false_or, Bool.true_and, Bool.false_and, Option.some.injEq, D.int.injEq, exists_eq_left', exists_eq_left, W_listT, List.set_set, lt_push, len_lt, List.getElem?_append_left, W_fldC, W_setFC, W_clsC, W_methC, W_lenC, W_ixC, W_ixTO, W_isLstC, W_appC, W_listC, W_tupC, W_truC, W_slC, W_slTT, W_addTT, W_addC, W_setIC, W_getIC, W_delC, W_isDctC, W_dgetC, W_dictC, W_dict0, W_eqS, W_neS, W_eqB, W_neB, W_meth, W_make, W_setF, W_augF, W_callK, W_chain, W_chainT, W_del, W_gSub, W_augI, W_get1, W_srcC, WCell_some, WO_some, at0, at1, at2, at3, at4, at5, ix0, ix1, at_nat, memS, lookF, putFD, String.reduceEq, String.reduceBEq, if_true, if_false, Bool.false_eq_true, Option.isNone_none, true_and, and_true, and_self, get_push, isNonD, Bool.not_true, Bool.not_false, cs_from_first, cs_own, cs_others, cs_spare, cs_locks, cs_closed, sl, s1, s2, s3]
    refine opened_law e ?_
    simp (maxDischargeDepth := 9) only [W_seq, W_asg, W_set, W_V, WV_some, W_C, W_op, W_cmpT, W_isB, W_un, W_tru, W_andT, W_orT, W_notT, W_andV, W_orV, W_notV, W_ife, W_nil, W_cons, W_tup, W_lst, W_addI, W_subI, W_iaddI, W_negI, W_mulI, W_fdivI, W_modI, W_powI, W_cmpI, W_isB_bl, W_isNB, W_isN, W_isntB, W_isntN, W_eqI, W_neI, W_pass, W_brk, W_cont, W_drop, W_rt, W_rtN, W_ifS, W_gsNil, W_gsCons, W_gTup, W_aug, W_call, W_B, RtN_rt, RtN_nx, W_abs, W_intI, W_intB, W_noPart, W_part, W_sl, W_lm, W_lm0, W_iter, W_range1, W_range2, W_forE, W_revE, W_compE, W_yes, W_lenT, W_truB, W_truI, List.append_nil, List.getElem?_cons_zero, List.getElem?_cons_succ, List.set_cons_zero, List.set_cons_succ, List.getElem?_set_self, List.getElem?_set_ne, lt_set, ne_eq, Nat.reduceEqDiff, not_false_eq_true, Nat.reduceLT, Nat.zero_ne_one, Nat.one_ne_zero, Nat.lt_add_one, Nat.zero_lt_succ, startD, List.map_cons, List.map_nil, List.length_cons, List.length_nil, List.cons_append, List.nil_append, Nat.reduceAdd, Nat.reduceSub, Nat.zero_add, List.replicate_succ, List.replicate_zero, W_inSC, List.all_cons, List.all_nil, flatD, List.any_cons, List.any_nil, eqF, Bool.and_true, Bool.or_false, Bool.or_true, Bool.true_or, Bool.false_or, Bool.true_and, Bool.false_and, Option.some.injEq, D.int.injEq, exists_eq_left', exists_eq_left, W_listT, List.set_set, lt_push, len_lt, List.getElem?_append_left, W_fldC, W_setFC, W_clsC, W_methC, W_lenC, W_ixC, W_ixTO, W_isLstC, W_appC, W_listC, W_tupC, W_truC, W_slC, W_slTT, W_addTT, W_addC, W_setIC, W_getIC, W_delC, W_isDctC, W_dgetC, W_dictC, W_dict0, W_eqS, W_neS, W_eqB, W_neB, W_meth, W_make, W_setF, W_augF, W_callK, W_chain, W_chainT, W_del, W_gSub, W_augI, W_get1, W_srcC, WCell_some, WO_some, at0, at1, at2, at3, at4, at5, ix0, ix1, at_nat, memS, lookF, putFD, String.reduceEq, String.reduceBEq, if_true, if_false, Bool.false_eq_true, Option.isNone_none, true_and, and_true, and_self, get_push, isNonD, Bool.not_true, Bool.not_false, cs_from_first, cs_own, cs_others, cs_spare, cs_locks, cs_closed, sl, s1, s2, s3, lD]
    cases hb : opn rs l == l.mine
    · simp only [hb, Bool.false_eq_true, if_false] at a1 a2
      simp (maxDischargeDepth := 9) only [W_seq, W_asg, W_set, W_V, WV_some, W_C, W_op, W_cmpT, W_isB, W_un, W_tru, W_andT, W_orT, W_notT, W_andV, W_orV, W_notV, W_ife, W_nil, W_cons, W_tup, W_lst, W_addI, W_subI, W_iaddI, W_negI, W_mulI, W_fdivI, W_modI, W_powI, W_cmpI, W_isB_bl, W_isNB, W_isN, W_isntB, W_isntN, W_eqI, W_neI, W_pass, W_brk, W_cont, W_drop, W_rt, W_rtN, W_ifS, W_gsNil, W_gsCons, W_gTup, W_aug, W_call, W_B, RtN_rt, RtN_nx, W_abs, W_intI, W_intB, W_noPart, W_part, W_sl, W_lm, W_lm0, W_iter, W_range1, W_range2, W_forE, W_revE, W_compE, W_yes, W_lenT, W_truB, W_truI, List.append_nil, List.getElem?_cons_zero, List.getElem?_cons_succ, List.set_cons_zero, List.set_cons_succ, List.getElem?_set_self, List.getElem?_set_ne, lt_set, ne_eq, Nat.reduceEqDiff, not_false_eq_true, Nat.reduceLT, Nat.zero_ne_one, Nat.one_ne_zero, Nat.lt_add_one, Nat.zero_lt_succ, startD, List.map_cons, List.map_nil, List.length_cons, List.length_nil, List.cons_append, List.nil_append, Nat.reduceAdd, Nat.reduceSub, Nat.zero_add, List.replicate_succ, List.replicate_zero, W_inSC, List.all_cons, List.all_nil, flatD, List.any_cons, List.any_nil, eqF, Bool.and_true, Bool.or_false, Bool.or_true, Bool.true_or, Bool.false_or, Bool.true_and, Bool.false_and, Option.some.injEq, D.int.injEq, exists_eq_left', exists_eq_left, W_listT, List.set_set, lt_push, len_lt, List.getElem?_append_left, W_fldC, W_setFC, W_clsC, W_methC, W_lenC, W_ixC, W_ixTO, W_isLstC, W_appC, W_listC, W_tupC, W_truC, W_slC, W_slTT, W_addTT, W_addC, W_setIC, W_getIC, W_delC, W_isDctC, W_dgetC, W_dictC, W_dict0, W_eqS, W_neS, W_eqB, W_neB, W_meth, W_make, W_setF, W_augF, W_callK, W_chain, W_chainT, W_del, W_gSub, W_augI, W_get1, W_srcC, WCell_some, WO_some, at0, at1, at2, at3, at4, at5, ix0, ix1, at_nat, memS, lookF, putFD, String.reduceEq, String.reduceBEq, if_true, if_false, Bool.false_eq_true, Option.isNone_none, true_and, and_true, and_self, get_push, isNonD, Bool.not_true, Bool.not_false, cs_from_first, cs_own, cs_others, cs_spare, cs_locks, cs_closed, sl, s1, s2, s3]
      rw [hI]
      exact ⟨rfl, by simp [sl], by simp [s1], by simp [sl, a1], by simp [s3, a2]⟩
    · simp only [hb, if_true] at a1 a2
      simp (maxDischargeDepth := 9) only [W_seq, W_asg, W_set, W_V, WV_some, W_C, W_op, W_cmpT, W_isB, W_un, W_tru, W_andT, W_orT, W_notT, W_andV, W_orV, W_notV, W_ife, W_nil, W_cons, W_tup, W_lst, W_addI, W_subI, W_iaddI, W_negI, W_mulI, W_fdivI, W_modI, W_powI, W_cmpI, W_isB_bl, W_isNB, W_isN, W_isntB, W_isntN, W_eqI, W_neI, W_pass, W_brk, W_cont, W_drop, W_rt, W_rtN, W_ifS, W_gsNil, W_gsCons, W_gTup, W_aug, W_call, W_B, RtN_rt, RtN_nx, W_abs, W_intI, W_intB, W_noPart, W_part, W_sl, W_lm, W_lm0, W_iter, W_range1, W_range2, W_forE, W_revE, W_compE, W_yes, W_lenT, W_truB, W_truI, List.append_nil, List.getElem?_cons_zero, List.getElem?_cons_succ, List.set_cons_zero, List.set_cons_succ, List.getElem?_set_self, List.getElem?_set_ne, lt_set, ne_eq, Nat.reduceEqDiff, not_false_eq_true, Nat.reduceLT, Nat.zero_ne_one, Nat.one_ne_zero, Nat.lt_add_one, Nat.zero_lt_succ, startD, List.map_cons, List.map_nil, List.length_cons, List.length_nil, List.cons_append, List.nil_append, Nat.reduceAdd, Nat.reduceSub, Nat.zero_add, List.replicate_succ, List.replicate_zero, W_inSC, List.all_cons, List.all_nil, flatD, List.any_cons, List.any_nil, eqF, Bool.and_true, Bool.or_false, Bool.or_true, Bool.true_or, Bool.false_or, Bool.true_and, Bool.false_and, Option.some.injEq, D.int.injEq, exists_eq_left', exists_eq_left, W_listT, List.set_set, lt_push, len_lt, List.getElem?_append_left, W_fldC, W_setFC, W_clsC, W_methC, W_lenC, W_ixC, W_ixTO, W_isLstC, W_appC, W_listC, W_tupC, W_truC, W_slC, W_slTT, W_addTT, W_addC, W_setIC, W_getIC, W_delC, W_isDctC, W_dgetC, W_dictC, W_dict0, W_eqS, W_neS, W_eqB, W_neB, W_meth, W_make, W_setF, W_augF, W_callK, W_chain, W_chainT, W_del, W_gSub, W_augI, W_get1, W_srcC, WCell_some, WO_some, at0, at1, at2, at3, at4, at5, ix0, ix1, at_nat, memS, lookF, putFD, String.reduceEq, String.reduceBEq, if_true, if_false, Bool.false_eq_true, Option.isNone_none, true_and, and_true, and_self, get_push, isNonD, Bool.not_true, Bool.not_false, cs_from_first, cs_own, cs_others, cs_spare, cs_locks, cs_closed, sl, s1, s2, s3]
      rw [hI]
      exact ⟨rfl, by simp [sl], by simp [s1], by simp [s2, a1], by simp [sl, a2]⟩
  · intro σ h' z
    rw [hI] at z
    obtain ⟨rfl, sl, s1, s2, s3⟩ := z
    rw [List.length_map, List.take_length] at s2 s3
    simp (maxDischargeDepth := 9) only [W_seq, W_asg, W_set, W_V, WV_some, W_C, W_op, W_cmpT, W_isB, W_un, W_tru, W_andT, W_orT, W_notT, W_andV, W_orV, W_notV, W_ife, W_nil, W_cons, W_tup, W_lst, W_addI, W_subI, W_iaddI, W_negI, W_mulI, W_fdivI, W_modI, W_powI, W_cmpI, W_isB_bl, W_isNB, W_isN, W_isntB, W_isntN, W_eqI, W_neI, W_pass, W_brk, W_cont, W_drop, W_rt, W_rtN, W_ifS, W_gsNil, W_gsCons, W_gTup, W_aug, W_call, W_B, RtN_rt, RtN_nx, W_abs, W_intI, W_intB, W_noPart, W_part, W_sl, W_lm, W_lm0, W_iter, W_range1, W_range2, W_forE, W_revE, W_compE, W_yes, W_lenT, W_truB, W_truI, List.append_nil, List.getElem?_cons_zero, List.getElem?_cons_succ, List.set_cons_zero, List.set_cons_succ, List.getElem?_set_self, List.getElem?_set_ne, lt_set, ne_eq, Nat.reduceEqDiff, not_false_eq_true, Nat.reduceLT, Nat.zero_ne_one, Nat.one_ne_zero, Nat.lt_add_one, Nat.zero_lt_succ, startD, List.map_cons, List.map_nil, List.length_cons, List.length_nil, List.cons_append, List.nil_append, Nat.reduceAdd, Nat.reduceSub, Nat.zero_add, List.replicate_succ, List.replicate_zero, W_inSC, List.all_cons, List.all_nil, flatD, List.any_cons, List.any_nil, eqF, Bool.and_true, Bool.or_false, Bool.or_true, Bool.true_or, Bool.false_or, Bool.true_and, Bool.false_and, Option.some.injEq, D.int.injEq, exists_eq_left', exists_eq_left, W_listT, List.set_set, lt_push, len_lt, List.getElem?_append_left, W_fldC, W_setFC, W_clsC, W_methC, W_lenC, W_ixC, W_ixTO, W_isLstC, W_appC, W_listC, W_tupC, W_truC, W_slC, W_slTT, W_addTT, W_addC, W_setIC, W_getIC, W_delC, W_isDctC, W_dgetC, W_dictC, W_dict0, W_eqS, W_neS, W_eqB, W_neB, W_meth, W_make, W_setF, W_augF, W_callK, W_chain, W_chainT, W_del, W_gSub, W_augI, W_get1, W_srcC, WCell_some, WO_some, at0, at1, at2, at3, at4, at5, ix0, ix1, at_nat, memS, lookF, putFD, String.reduceEq, String.reduceBEq, if_true, if_false, Bool.false_eq_true, Option.isNone_none, true_and, and_true, and_self, get_push, isNonD, Bool.not_true, Bool.not_false, cs_from_first, cs_own, cs_others, cs_spare, cs_locks, cs_closed, sl, s1, s2, s3]
    exact ⟨by decide, q⟩
theorem worth_law {s : Stt} {R : Nat} {rs : List (Int × Int)} (e : h[R]? = some (.dct (rK rs))) (hR : R ≠ 1) (q : Q (.tup [.int (s.a + fA rs s.locks), .int (s.b + sB rs s.locks)]) h) : W (F_worth [sD s, .ref R]) h Q := by
  unfold F_worth B_worth
  refine w_run rfl ?_
  simp (maxDischargeDepth := 9) only [W_seq, W_asg, W_set, W_V, WV_some, W_C, W_op, W_cmpT, W_isB, W_un, W_tru, W_andT, W_orT, W_notT, W_andV, W_orV, W_notV, W_ife, W_nil, W_cons, W_tup, W_lst, W_addI, W_subI, W_iaddI, W_negI, W_mulI, W_fdivI, W_modI, W_powI, W_cmpI, W_isB_bl, W_isNB, W_isN, W_isntB, W_isntN, W_eqI, W_neI, W_pass, W_brk, W_cont, W_drop, W_rt, W_rtN, W_ifS, W_gsNil, W_gsCons, W_gTup, W_aug, W_call, W_B, RtN_rt, RtN_nx, W_abs, W_intI, W_intB, W_noPart, W_part, W_sl, W_lm, W_lm0, W_iter, W_range1, W_range2, W_forE, W_revE, W_compE, W_yes, W_lenT, W_truB, W_truI, List.append_nil, List.getElem?_cons_zero, List.getElem?_cons_succ, List.set_cons_zero, List.set_cons_succ, List.getElem?_set_self, List.getElem?_set_ne, lt_set, ne_eq, Nat.reduceEqDiff, not_false_eq_true, Nat.reduceLT, Nat.zero_ne_one, Nat.one_ne_zero, Nat.lt_add_one, Nat.zero_lt_succ, startD, List.map_cons, List.map_nil, List.length_cons, List.length_nil, List.cons_append, List.nil_append, Nat.reduceAdd, Nat.reduceSub, Nat.zero_add, List.replicate_succ, List.replicate_zero, W_inSC, List.all_cons, List.all_nil, flatD, List.any_cons, List.any_nil, eqF, Bool.and_true, Bool.or_false, Bool.or_true, Bool.true_or, Bool.false_or, Bool.true_and, Bool.false_and, Option.some.injEq, D.int.injEq, exists_eq_left', exists_eq_left, W_listT, List.set_set, lt_push, len_lt, List.getElem?_append_left, W_fldC, W_setFC, W_clsC, W_methC, W_lenC, W_ixC, W_ixTO, W_isLstC, W_appC, W_listC, W_tupC, W_truC, W_slC, W_slTT, W_addTT, W_addC, W_setIC, W_getIC, W_delC, W_isDctC, W_dgetC, W_dictC, W_dict0, W_eqS, W_neS, W_eqB, W_neB, W_meth, W_make, W_setF, W_augF, W_callK, W_chain, W_chainT, W_del, W_gSub, W_augI, W_get1, W_srcC, WCell_some, WO_some, at0, at1, at2, at3, at4, at5, ix0, ix1, at_nat, memS, lookF, putFD, String.reduceEq, String.reduceBEq, if_true, if_false, Bool.false_eq_true, Option.isNone_none, true_and, and_true, and_self, get_push, isNonD, Bool.not_true, Bool.not_false, cs_from_first, cs_own, cs_others, cs_spare, cs_locks, cs_closed, sD]
  refine shares_law e hR ?_
  simp (maxDischargeDepth := 9) only [W_seq, W_asg, W_set, W_V, WV_some, W_C, W_op, W_cmpT, W_isB, W_un, W_tru, W_andT, W_orT, W_notT, W_andV, W_orV, W_notV, W_ife, W_nil, W_cons, W_tup, W_lst, W_addI, W_subI, W_iaddI, W_negI, W_mulI, W_fdivI, W_modI, W_powI, W_cmpI, W_isB_bl, W_isNB, W_isN, W_isntB, W_isntN, W_eqI, W_neI, W_pass, W_brk, W_cont, W_drop, W_rt, W_rtN, W_ifS, W_gsNil, W_gsCons, W_gTup, W_aug, W_call, W_B, RtN_rt, RtN_nx, W_abs, W_intI, W_intB, W_noPart, W_part, W_sl, W_lm, W_lm0, W_iter, W_range1, W_range2, W_forE, W_revE, W_compE, W_yes, W_lenT, W_truB, W_truI, List.append_nil, List.getElem?_cons_zero, List.getElem?_cons_succ, List.set_cons_zero, List.set_cons_succ, List.getElem?_set_self, List.getElem?_set_ne, lt_set, ne_eq, Nat.reduceEqDiff, not_false_eq_true, Nat.reduceLT, Nat.zero_ne_one, Nat.one_ne_zero, Nat.lt_add_one, Nat.zero_lt_succ, startD, List.map_cons, List.map_nil, List.length_cons, List.length_nil, List.cons_append, List.nil_append, Nat.reduceAdd, Nat.reduceSub, Nat.zero_add, List.replicate_succ, List.replicate_zero, W_inSC, List.all_cons, List.all_nil, flatD, List.any_cons, List.any_nil, eqF, Bool.and_true, Bool.or_false, Bool.or_true, Bool.true_or, Bool.false_or, Bool.true_and, Bool.false_and, Option.some.injEq, D.int.injEq, exists_eq_left', exists_eq_left, W_listT, List.set_set, lt_push, len_lt, List.getElem?_append_left, W_fldC, W_setFC, W_clsC, W_methC, W_lenC, W_ixC, W_ixTO, W_isLstC, W_appC, W_listC, W_tupC, W_truC, W_slC, W_slTT, W_addTT, W_addC, W_setIC, W_getIC, W_delC, W_isDctC, W_dgetC, W_dictC, W_dict0, W_eqS, W_neS, W_eqB, W_neB, W_meth, W_make, W_setF, W_augF, W_callK, W_chain, W_chainT, W_del, W_gSub, W_augI, W_get1, W_srcC, WCell_some, WO_some, at0, at1, at2, at3, at4, at5, ix0, ix1, at_nat, memS, lookF, putFD, String.reduceEq, String.reduceBEq, if_true, if_false, Bool.false_eq_true, Option.isNone_none, true_and, and_true, and_self, get_push, isNonD, Bool.not_true, Bool.not_false, cs_from_first, cs_own, cs_others, cs_spare, cs_locks, cs_closed]
  exact ⟨by decide, q⟩
theorem lworth_law {s : Stt} {R : Nat} {rs : List (Int × Int)} (e : h[R]? = some (.dct (rK rs))) (hR : R ≠ 1) (h2 : 2 ≤ h.length) (q : ∀ h', Fr [] h h' → Q (.tup [.int (s.a + fA rs s.locks), .int (s.b + sB rs s.locks)]) h') : W (F__law_worth [sD s, .ref R]) h Q := by
  unfold F__law_worth B__law_worth
  refine w_run rfl ?_
  simp (maxDischargeDepth := 9) only [W_seq, W_asg, W_set, W_V, WV_some, W_C, W_op, W_cmpT, W_isB, W_un, W_tru, W_andT, W_orT, W_notT, W_andV, W_orV, W_notV, W_ife, W_nil, W_cons, W_tup, W_lst, W_addI, W_subI, W_iaddI, W_negI, W_mulI, W_fdivI, W_modI, W_powI, W_cmpI, W_isB_bl, W_isNB, W_isN, W_isntB, W_isntN, W_eqI, W_neI, W_pass, W_brk, W_cont, W_drop, W_rt, W_rtN, W_ifS, W_gsNil, W_gsCons, W_gTup, W_aug, W_call, W_B, RtN_rt, RtN_nx, W_abs, W_intI, W_intB, W_noPart, W_part, W_sl, W_lm, W_lm0, W_iter, W_range1, W_range2, W_forE, W_revE, W_compE, W_yes, W_lenT, W_truB, W_truI, List.append_nil, List.getElem?_cons_zero, List.getElem?_cons_succ, List.set_cons_zero, List.set_cons_succ, List.getElem?_set_self, List.getElem?_set_ne, lt_set, ne_eq, Nat.reduceEqDiff, not_false_eq_true, Nat.reduceLT, Nat.zero_ne_one, Nat.one_ne_zero, Nat.lt_add_one, Nat.zero_lt_succ, startD, List.map_cons, List.map_nil, List.length_cons, List.length_nil, List.cons_append, List.nil_append, Nat.reduceAdd, Nat.reduceSub, Nat.zero_add, List.replicate_succ, List.replicate_zero, W_inSC, List.all_cons, List.all_nil, flatD, List.any_cons, List.any_nil, eqF, Bool.and_true, Bool.or_false, Bool.or_true, Bool.true_or, Bool.false_or, Bool.true_and, Bool.false_and, Option.some.injEq, D.int.injEq, exists_eq_left', exists_eq_left, W_listT, List.set_set, lt_push, len_lt, List.getElem?_append_left, W_fldC, W_setFC, W_clsC, W_methC, W_lenC, W_ixC, W_ixTO, W_isLstC, W_appC, W_listC, W_tupC, W_truC, W_slC, W_slTT, W_addTT, W_addC, W_setIC, W_getIC, W_delC, W_isDctC, W_dgetC, W_dictC, W_dict0, W_eqS, W_neS, W_eqB, W_neB, W_meth, W_make, W_setF, W_augF, W_callK, W_chain, W_chainT, W_del, W_gSub, W_augI, W_get1, W_srcC, WCell_some, WO_some, at0, at1, at2, at3, at4, at5, ix0, ix1, at_nat, memS, lookF, putFD, String.reduceEq, String.reduceBEq, if_true, if_false, Bool.false_eq_true, Option.isNone_none, true_and, and_true, and_self, get_push, isNonD, Bool.not_true, Bool.not_false, cs_from_first, cs_own, cs_others, cs_spare, cs_locks, cs_closed, sD]
  refine ⟨by decide, ?_⟩
  rw [W_srcTp]
  obtain ⟨I, hI⟩ : ∃ I : Nat → Ev → Hd → Prop, ∀ i σ h', I i σ h' = (Fr [] h h' ∧ σ.length = 8 ∧ σ[1]? = some (some (.ref R)) ∧ σ[2]? = some (some (.ref h.length)) ∧ h'[h.length]? = some (.lst [.int (s.a + fA rs (s.locks.take i)), .int (s.b + sB rs (s.locks.take i))])) := ⟨_, fun _ _ _ => rfl⟩
  refine w_forT I (by rw [hI]; exact ⟨.push, by simp, by simp, by simp, by simp [fA, sB]⟩) ?_ ?_
  · intro i σ h' hi z
    rw [hI] at z
    obtain ⟨F, sl, s1, s2, ea⟩ := z
    have hi' : i < s.locks.length := by simpa using hi
    rw [List.getElem_map]
    have a1 := fA_step rs s.locks i hi'
    have a2 := sB_step rs s.locks i hi'
    generalize s.locks[i] = l at a1 a2
    have er := F.keep e (by simp) hR
    have la := get_lt ea
    have W1 : ∀ c, Fr [] h (h'.set h.length c) := fun c => Fr.fresh (n := h.length) ((F.mono fun _ _ z => by cases z).trans (.write (by simp) (by omega))) (Nat.le_refl _)
    unfold Turn L__law_worth_0
    simp (maxDischargeDepth := 9) only [W_seq, W_asg, W_set, W_V, WV_some, W_C, W_op, W_cmpT, W_isB, W_un, W_tru, W_andT, W_orT, W_notT, W_andV, W_orV, W_notV, W_ife, W_nil, W_cons, W_tup, W_lst, W_addI, W_subI, W_iaddI, W_negI, W_mulI, W_fdivI, W_modI, W_powI, W_cmpI, W_isB_bl, W_isNB, W_isN, W_isntB, W_isntN, W_eqI, W_neI, W_pass, W_brk, W_cont, W_drop, W_rt, W_rtN, W_ifS, W_gsNil, W_gsCons, W_gTup, W_aug, W_call, W_B, RtN_rt, RtN_nx, W_abs, W_intI, W_intB, W_noPart, W_part, W_sl, W_lm, W_lm0, W_iter, W_range1, W_range2, W_forE, W_revE, W_compE, W_yes, W_lenT, W_truB, W_truI, List.append_nil, List.getElem?_cons_zero, List.getElem?_cons_succ, List.set_cons_zero, List.set_cons_succ, List.getElem?_set_self, List.getElem?_set_ne, lt_set, ne_eq, Nat.reduceEqDiff, not_false_eq_true, Nat.reduceLT, Nat.zero_ne_one, Nat.one_ne_zero, Nat.lt_add_one, Nat.zero_lt_succ, startD, List.map_cons, List.map_nil, List.length_cons, List.length_nil, List.cons_append, List.nil_append, Nat.reduceAdd, Nat.reduceSub, Nat.zero_add, List.replicate_succ, List.replicate_zero, W_inSC, List.all_cons, List.all_nil, flatD, List.any_cons, List.any_nil, eqF, Bool.and_true, Bool.or_false, Bool.or_true, Bool.true_or, Bool.false_or, Bool.true_and, Bool.false_and, Option.some.injEq, D.int.injEq, exists_eq_left', exists_eq_left, W_listT, List.set_set, lt_push, len_lt, List.getElem?_append_left, W_fldC, W_setFC, W_clsC, W_methC, W_lenC, W_ixC, W_ixTO, W_isLstC, W_appC, W_listC, W_tupC, W_truC, W_slC, W_slTT, W_addTT, W_addC, W_setIC, W_getIC, W_delC, W_isDctC, W_dgetC, W_dictC, W_dict0, W_eqS, W_neS, W_eqB, W_neB, W_meth, W_make, W_setF, W_augF, W_callK, W_chain, W_chainT, W_del, W_gSub, W_augI, W_get1, W_srcC, WCell_some, WO_some, at0, at1, at2, at3, at4, at5, ix0, ix1, at_nat, memS, lookF, putFD, String.reduceEq, String.reduceBEq, if_true, if_false, Bool.false_eq_true, Option.isNone_none, true_and, and_true, and_self, get_push, isNonD, Bool.not_true, Bool.not_false, cs_from_first, cs_own, cs_others, cs_spare, cs_locks, cs_closed, sl, s1, s2, lD]
    rw [W_inD er]
    have ho : ∀ (X : Ev), True := fun _ => trivial
    cases hl : lookR l.key rs with
    | none =>
      have hb : opn rs l = false := by unfold opn; rw [hl]
      simp (maxDischargeDepth := 9) only [look_rK, hl, Option.map_none, Option.isSome_none, W_seq, W_asg, W_set, W_V, WV_some, W_C, W_op, W_cmpT, W_isB, W_un, W_tru, W_andT, W_orT, W_notT, W_andV, W_orV, W_notV, W_ife, W_nil, W_cons, W_tup, W_lst, W_addI, W_subI, W_iaddI, W_negI, W_mulI, W_fdivI, W_modI, W_powI, W_cmpI, W_isB_bl, W_isNB, W_isN, W_isntB, W_isntN, W_eqI, W_neI, W_pass, W_brk, W_cont, W_drop, W_rt, W_rtN, W_ifS, W_gsNil, W_gsCons, W_gTup, W_aug, W_call, W_B, RtN_rt, RtN_nx, W_abs, W_intI, W_intB, W_noPart, W_part, W_sl, W_lm, W_lm0, W_iter, W_range1, W_range2, W_forE, W_revE, W_compE, W_yes, W_lenT, W_truB, W_truI, List.append_nil, List.getElem?_cons_zero, List.getElem?_cons_succ, List.set_cons_zero, List.set_cons_succ, List.getElem?_set_self, List.getElem?_set_ne, lt_set, ne_eq, Nat.reduceEqDiff, not_false_eq_true, Nat.reduceLT, Nat.zero_ne_one, Nat.one_ne_zero, Nat.lt_add_one, Nat.zero_lt_succ, startD, List.map_cons, List.map_nil, List.length_cons, List.length_nil, List.cons_append, List.nil_append, Nat.reduceAdd, Nat.reduceSub, Nat.zero_add, List.replicate_succ, List.replicate_zero, W_inSC, List.all_cons, List.all_nil, flatD, List.any_cons, List.any_nil, eqF, Bool.and_true, Bool.or_false, Bool.or_true, Bool.true_or, Bool.false_or, Bool.true_and, Bool.false_and, Option.some.injEq, D.int.injEq, exists_eq_left', exists_eq_left, W_listT, List.set_set, lt_push, len_lt, List.getElem?_append_left, W_fldC, W_setFC, W_clsC, W_methC, W_lenC, W_ixC, W_ixTO, W_isLstC, W_appC, W_listC, W_tupC, W_truC, W_slC, W_slTT, W_addTT, W_addC, W_setIC, W_getIC, W_delC, W_isDctC, W_dgetC, W_dictC, W_dict0, W_eqS, W_neS, W_eqB, W_neB, W_meth, W_make, W_setF, W_augF, W_callK, W_chain, W_chainT, W_del, W_gSub, W_augI, W_get1, W_srcC, WCell_some, WO_some, at0, at1, at2, at3, at4, at5, ix0, ix1, at_nat, memS, lookF, putFD, String.reduceEq, String.reduceBEq, if_true, if_false, Bool.false_eq_true, Option.isNone_none, true_and, and_true, and_self, get_push, isNonD, Bool.not_true, Bool.not_false, cs_from_first, cs_own, cs_others, cs_spare, cs_locks, cs_closed, sl, s1, s2, ea, er, la]
      rw [hb] at a1 a2
      cases hm : l.mine
      · simp only [hm, show (false == false) = true from rfl, if_true] at a1 a2
        simp (maxDischargeDepth := 9) only [show (false == false) = true from rfl, W_seq, W_asg, W_set, W_V, WV_some, W_C, W_op, W_cmpT, W_isB, W_un, W_tru, W_andT, W_orT, W_notT, W_andV, W_orV, W_notV, W_ife, W_nil, W_cons, W_tup, W_lst, W_addI, W_subI, W_iaddI, W_negI, W_mulI, W_fdivI, W_modI, W_powI, W_cmpI, W_isB_bl, W_isNB, W_isN, W_isntB, W_isntN, W_eqI, W_neI, W_pass, W_brk, W_cont, W_drop, W_rt, W_rtN, W_ifS, W_gsNil, W_gsCons, W_gTup, W_aug, W_call, W_B, RtN_rt, RtN_nx, W_abs, W_intI, W_intB, W_noPart, W_part, W_sl, W_lm, W_lm0, W_iter, W_range1, W_range2, W_forE, W_revE, W_compE, W_yes, W_lenT, W_truB, W_truI, List.append_nil, List.getElem?_cons_zero, List.getElem?_cons_succ, List.set_cons_zero, List.set_cons_succ, List.getElem?_set_self, List.getElem?_set_ne, lt_set, ne_eq, Nat.reduceEqDiff, not_false_eq_true, Nat.reduceLT, Nat.zero_ne_one, Nat.one_ne_zero, Nat.lt_add_one, Nat.zero_lt_succ, startD, List.map_cons, List.map_nil, List.length_cons, List.length_nil, List.cons_append, List.nil_append, Nat.reduceAdd, Nat.reduceSub, Nat.zero_add, List.replicate_succ, List.replicate_zero, W_inSC, List.all_cons, List.all_nil, flatD, List.any_cons, List.any_nil, eqF, Bool.and_true, Bool.or_false, Bool.or_true, Bool.true_or, Bool.false_or, Bool.true_and, Bool.false_and, Option.some.injEq, D.int.injEq, exists_eq_left', exists_eq_left, W_listT, List.set_set, lt_push, len_lt, List.getElem?_append_left, W_fldC, W_setFC, W_clsC, W_methC, W_lenC, W_ixC, W_ixTO, W_isLstC, W_appC, W_listC, W_tupC, W_truC, W_slC, W_slTT, W_addTT, W_addC, W_setIC, W_getIC, W_delC, W_isDctC, W_dgetC, W_dictC, W_dict0, W_eqS, W_neS, W_eqB, W_neB, W_meth, W_make, W_setF, W_augF, W_callK, W_chain, W_chainT, W_del, W_gSub, W_augI, W_get1, W_srcC, WCell_some, WO_some, at0, at1, at2, at3, at4, at5, ix0, ix1, at_nat, memS, lookF, putFD, String.reduceEq, String.reduceBEq, if_true, if_false, Bool.false_eq_true, Option.isNone_none, true_and, and_true, and_self, get_push, isNonD, Bool.not_true, Bool.not_false, cs_from_first, cs_own, cs_others, cs_spare, cs_locks, cs_closed, sl, s1, s2, ea, er, la, show (0 : Int) ≤ 1 from by decide, show ((1 : Int).toNat) = 1 from rfl]
        rw [hI]
        refine ⟨W1 _, by simp [sl], by simp [s1], by simp [s2], ?_⟩
        rw [get_set ea, a1, a2]; simp [Int.add_assoc]
      · simp only [hm, show (false == true) = false from rfl, Bool.false_eq_true, if_false] at a1 a2
        simp (maxDischargeDepth := 9) only [show (false == true) = false from rfl, W_seq, W_asg, W_set, W_V, WV_some, W_C, W_op, W_cmpT, W_isB, W_un, W_tru, W_andT, W_orT, W_notT, W_andV, W_orV, W_notV, W_ife, W_nil, W_cons, W_tup, W_lst, W_addI, W_subI, W_iaddI, W_negI, W_mulI, W_fdivI, W_modI, W_powI, W_cmpI, W_isB_bl, W_isNB, W_isN, W_isntB, W_isntN, W_eqI, W_neI, W_pass, W_brk, W_cont, W_drop, W_rt, W_rtN, W_ifS, W_gsNil, W_gsCons, W_gTup, W_aug, W_call, W_B, RtN_rt, RtN_nx, W_abs, W_intI, W_intB, W_noPart, W_part, W_sl, W_lm, W_lm0, W_iter, W_range1, W_range2, W_forE, W_revE, W_compE, W_yes, W_lenT, W_truB, W_truI, List.append_nil, List.getElem?_cons_zero, List.getElem?_cons_succ, List.set_cons_zero, List.set_cons_succ, List.getElem?_set_self, List.getElem?_set_ne, lt_set, ne_eq, Nat.reduceEqDiff, not_false_eq_true, Nat.reduceLT, Nat.zero_ne_one, Nat.one_ne_zero, Nat.lt_add_one, Nat.zero_lt_succ, startD, List.map_cons, List.map_nil, List.length_cons, List.length_nil, List.cons_append, List.nil_append, Nat.reduceAdd, Nat.reduceSub, Nat.zero_add, List.replicate_succ, List.replicate_zero, W_inSC, List.all_cons, List.all_nil, flatD, List.any_cons, List.any_nil, eqF, Bool.and_true, Bool.or_false, Bool.or_true, Bool.true_or, Bool.false_or, Bool.true_and, Bool.false_and, Option.some.injEq, D.int.injEq, exists_eq_left', exists_eq_left, W_listT, List.set_set, lt_push, len_lt, List.getElem?_append_left, W_fldC, W_setFC, W_clsC, W_methC, W_lenC, W_ixC, W_ixTO, W_isLstC, W_appC, W_listC, W_tupC, W_truC, W_slC, W_slTT, W_addTT, W_addC, W_setIC, W_getIC, W_delC, W_isDctC, W_dgetC, W_dictC, W_dict0, W_eqS, W_neS, W_eqB, W_neB, W_meth, W_make, W_setF, W_augF, W_callK, W_chain, W_chainT, W_del, W_gSub, W_augI, W_get1, W_srcC, WCell_some, WO_some, at0, at1, at2, at3, at4, at5, ix0, ix1, at_nat, memS, lookF, putFD, String.reduceEq, String.reduceBEq, if_true, if_false, Bool.false_eq_true, Option.isNone_none, true_and, and_true, and_self, get_push, isNonD, Bool.not_true, Bool.not_false, cs_from_first, cs_own, cs_others, cs_spare, cs_locks, cs_closed, sl, s1, s2, ea, er, la, show (0 : Int) ≤ 0 from by decide, show ((0 : Int).toNat) = 0 from rfl]
        rw [hI]
        refine ⟨W1 _, by simp [sl], by simp [s1], by simp [s2], ?_⟩
        rw [get_set ea, a1, a2]; simp [Int.add_assoc]
    | some t =>
      have hb : opn rs l = decide (t ≤ l.dl) := by unfold opn; rw [hl]
      simp (maxDischargeDepth := 9) only [look_rK, hl, Option.map_some, Option.isSome_some, W_seq, W_asg, W_set, W_V, WV_some, W_C, W_op, W_cmpT, W_isB, W_un, W_tru, W_andT, W_orT, W_notT, W_andV, W_orV, W_notV, W_ife, W_nil, W_cons, W_tup, W_lst, W_addI, W_subI, W_iaddI, W_negI, W_mulI, W_fdivI, W_modI, W_powI, W_cmpI, W_isB_bl, W_isNB, W_isN, W_isntB, W_isntN, W_eqI, W_neI, W_pass, W_brk, W_cont, W_drop, W_rt, W_rtN, W_ifS, W_gsNil, W_gsCons, W_gTup, W_aug, W_call, W_B, RtN_rt, RtN_nx, W_abs, W_intI, W_intB, W_noPart, W_part, W_sl, W_lm, W_lm0, W_iter, W_range1, W_range2, W_forE, W_revE, W_compE, W_yes, W_lenT, W_truB, W_truI, List.append_nil, List.getElem?_cons_zero, List.getElem?_cons_succ, List.set_cons_zero, List.set_cons_succ, List.getElem?_set_self, List.getElem?_set_ne, lt_set, ne_eq, Nat.reduceEqDiff, not_false_eq_true, Nat.reduceLT, Nat.zero_ne_one, Nat.one_ne_zero, Nat.lt_add_one, Nat.zero_lt_succ, startD, List.map_cons, List.map_nil, List.length_cons, List.length_nil, List.cons_append, List.nil_append, Nat.reduceAdd, Nat.reduceSub, Nat.zero_add, List.replicate_succ, List.replicate_zero, W_inSC, List.all_cons, List.all_nil, flatD, List.any_cons, List.any_nil, eqF, Bool.and_true, Bool.or_false, Bool.or_true, Bool.true_or, Bool.false_or, Bool.true_and, Bool.false_and, Option.some.injEq, D.int.injEq, exists_eq_left', exists_eq_left, W_listT, List.set_set, lt_push, len_lt, List.getElem?_append_left, W_fldC, W_setFC, W_clsC, W_methC, W_lenC, W_ixC, W_ixTO, W_isLstC, W_appC, W_listC, W_tupC, W_truC, W_slC, W_slTT, W_addTT, W_addC, W_setIC, W_getIC, W_delC, W_isDctC, W_dgetC, W_dictC, W_dict0, W_eqS, W_neS, W_eqB, W_neB, W_meth, W_make, W_setF, W_augF, W_callK, W_chain, W_chainT, W_del, W_gSub, W_augI, W_get1, W_srcC, WCell_some, WO_some, at0, at1, at2, at3, at4, at5, ix0, ix1, at_nat, memS, lookF, putFD, String.reduceEq, String.reduceBEq, if_true, if_false, Bool.false_eq_true, Option.isNone_none, true_and, and_true, and_self, get_push, isNonD, Bool.not_true, Bool.not_false, cs_from_first, cs_own, cs_others, cs_spare, cs_locks, cs_closed, sl, s1, s2, ea, er, la]
      rw [← hb]
      cases hm : opn rs l == l.mine
      · simp only [hm, Bool.false_eq_true, if_false] at a1 a2
        simp (maxDischargeDepth := 9) only [W_seq, W_asg, W_set, W_V, WV_some, W_C, W_op, W_cmpT, W_isB, W_un, W_tru, W_andT, W_orT, W_notT, W_andV, W_orV, W_notV, W_ife, W_nil, W_cons, W_tup, W_lst, W_addI, W_subI, W_iaddI, W_negI, W_mulI, W_fdivI, W_modI, W_powI, W_cmpI, W_isB_bl, W_isNB, W_isN, W_isntB, W_isntN, W_eqI, W_neI, W_pass, W_brk, W_cont, W_drop, W_rt, W_rtN, W_ifS, W_gsNil, W_gsCons, W_gTup, W_aug, W_call, W_B, RtN_rt, RtN_nx, W_abs, W_intI, W_intB, W_noPart, W_part, W_sl, W_lm, W_lm0, W_iter, W_range1, W_range2, W_forE, W_revE, W_compE, W_yes, W_lenT, W_truB, W_truI, List.append_nil, List.getElem?_cons_zero, List.getElem?_cons_succ, List.set_cons_zero, List.set_cons_succ, List.getElem?_set_self, List.getElem?_set_ne, lt_set, ne_eq, Nat.reduceEqDiff, not_false_eq_true, Nat.reduceLT, Nat.zero_ne_one, Nat.one_ne_zero, Nat.lt_add_one, Nat.zero_lt_succ, startD, List.map_cons, List.map_nil, List.length_cons, List.length_nil, List.cons_append, List.nil_append, Nat.reduceAdd, Nat.reduceSub, Nat.zero_add, List.replicate_succ, List.replicate_zero, W_inSC, List.all_cons, List.all_nil, flatD, List.any_cons, List.any_nil, eqF, Bool.and_true, Bool.or_false, Bool.or_true, Bool.true_or, Bool.false_or, Bool.true_and, Bool.false_and, Option.some.injEq, D.int.injEq, exists_eq_left', exists_eq_left, W_listT, List.set_set, lt_push, len_lt, List.getElem?_append_left, W_fldC, W_setFC, W_clsC, W_methC, W_lenC, W_ixC, W_ixTO, W_isLstC, W_appC, W_listC, W_tupC, W_truC, W_slC, W_slTT, W_addTT, W_addC, W_setIC, W_getIC, W_delC, W_isDctC, W_dgetC, W_dictC, W_dict0, W_eqS, W_neS, W_eqB, W_neB, W_meth, W_make, W_setF, W_augF, W_callK, W_chain, W_chainT, W_del, W_gSub, W_augI, W_get1, W_srcC, WCell_some, WO_some, at0, at1, at2, at3, at4, at5, ix0, ix1, at_nat, memS, lookF, putFD, String.reduceEq, String.reduceBEq, if_true, if_false, Bool.false_eq_true, Option.isNone_none, true_and, and_true, and_self, get_push, isNonD, Bool.not_true, Bool.not_false, cs_from_first, cs_own, cs_others, cs_spare, cs_locks, cs_closed, sl, s1, s2, ea, er, la, show (0 : Int) ≤ 0 from by decide, show ((0 : Int).toNat) = 0 from rfl]
        rw [hI]
        refine ⟨W1 _, by simp [sl], by simp [s1], by simp [s2], ?_⟩
        rw [get_set ea, a1, a2]; simp [Int.add_assoc]
      · simp only [hm, if_true] at a1 a2
        simp (maxDischargeDepth := 9) only [W_seq, W_asg, W_set, W_V, WV_some, W_C, W_op, W_cmpT, W_isB, W_un, W_tru, W_andT, W_orT, W_notT, W_andV, W_orV, W_notV, W_ife, W_nil, W_cons, W_tup, W_lst, W_addI, W_subI, W_iaddI, W_negI, W_mulI, W_fdivI, W_modI, W_powI, W_cmpI, W_isB_bl, W_isNB, W_isN, W_isntB, W_isntN, W_eqI, W_neI, W_pass, W_brk, W_cont, W_drop, W_rt, W_rtN, W_ifS, W_gsNil, W_gsCons, W_gTup, W_aug, W_call, W_B, RtN_rt, RtN_nx, W_abs, W_intI, W_intB, W_noPart, W_part, W_sl, W_lm, W_lm0, W_iter, W_range1, W_range2, W_forE, W_revE, W_compE, W_yes, W_lenT, W_truB, W_truI, List.append_nil, List.getElem?_cons_zero, List.getElem?_cons_succ, List.set_cons_zero, List.set_cons_succ, List.getElem?_set_self, List.getElem?_set_ne, lt_set, ne_eq, Nat.reduceEqDiff, not_false_eq_true, Nat.reduceLT, Nat.zero_ne_one, Nat.one_ne_zero, Nat.lt_add_one, Nat.zero_lt_succ, startD, List.map_cons, List.map_nil, List.length_cons, List.length_nil, List.cons_append, List.nil_append, Nat.reduceAdd, Nat.reduceSub, Nat.zero_add, List.replicate_succ, List.replicate_zero, W_inSC, List.all_cons, List.all_nil, flatD, List.any_cons, List.any_nil, eqF, Bool.and_true, Bool.or_false, Bool.or_true, Bool.true_or, Bool.false_or, Bool.true_and, Bool.false_and, Option.some.injEq, D.int.injEq, exists_eq_left', exists_eq_left, W_listT, List.set_set, lt_push, len_lt, List.getElem?_append_left, W_fldC, W_setFC, W_clsC, W_methC, W_lenC, W_ixC, W_ixTO, W_isLstC, W_appC, W_listC, W_tupC, W_truC, W_slC, W_slTT, W_addTT, W_addC, W_setIC, W_getIC, W_delC, W_isDctC, W_dgetC, W_dictC, W_dict0, W_eqS, W_neS, W_eqB, W_neB, W_meth, W_make, W_setF, W_augF, W_callK, W_chain, W_chainT, W_del, W_gSub, W_augI, W_get1, W_srcC, WCell_some, WO_some, at0, at1, at2, at3, at4, at5, ix0, ix1, at_nat, memS, lookF, putFD, String.reduceEq, String.reduceBEq, if_true, if_false, Bool.false_eq_true, Option.isNone_none, true_and, and_true, and_self, get_push, isNonD, Bool.not_true, Bool.not_false, cs_from_first, cs_own, cs_others, cs_spare, cs_locks, cs_closed, sl, s1, s2, ea, er, la, show (0 : Int) ≤ 1 from by decide, show ((1 : Int).toNat) = 1 from rfl]
        rw [hI]
        refine ⟨W1 _, by simp [sl], by simp [s1], by simp [s2], ?_⟩
        rw [get_set ea, a1, a2]; simp [Int.add_assoc]
  · intro σ h' z
    rw [hI] at z
    obtain ⟨F, sl, s1, s2, ea⟩ := z
    rw [List.length_map, List.take_length] at ea
    simp (maxDischargeDepth := 9) only [W_seq, W_asg, W_set, W_V, WV_some, W_C, W_op, W_cmpT, W_isB, W_un, W_tru, W_andT, W_orT, W_notT, W_andV, W_orV, W_notV, W_ife, W_nil, W_cons, W_tup, W_lst, W_addI, W_subI, W_iaddI, W_negI, W_mulI, W_fdivI, W_modI, W_powI, W_cmpI, W_isB_bl, W_isNB, W_isN, W_isntB, W_isntN, W_eqI, W_neI, W_pass, W_brk, W_cont, W_drop, W_rt, W_rtN, W_ifS, W_gsNil, W_gsCons, W_gTup, W_aug, W_call, W_B, RtN_rt, RtN_nx, W_abs, W_intI, W_intB, W_noPart, W_part, W_sl, W_lm, W_lm0, W_iter, W_range1, W_range2, W_forE, W_revE, W_compE, W_yes, W_lenT, W_truB, W_truI, List.append_nil, List.getElem?_cons_zero, List.getElem?_cons_succ, List.set_cons_zero, List.set_cons_succ, List.getElem?_set_self, List.getElem?_set_ne, lt_set, ne_eq, Nat.reduceEqDiff, not_false_eq_true, Nat.reduceLT, Nat.zero_ne_one, Nat.one_ne_zero, Nat.lt_add_one, Nat.zero_lt_succ, startD, List.map_cons, List.map_nil, List.length_cons, List.length_nil, List.cons_append, List.nil_append, Nat.reduceAdd, Nat.reduceSub, Nat.zero_add, List.replicate_succ, List.replicate_zero, W_inSC, List.all_cons, List.all_nil, flatD, List.any_cons, List.any_nil, eqF, Bool.and_true, Bool.or_false, Bool.or_true, Bool.true_or, Bool.false_or, Bool.true_and, Bool.false_and, Option.some.injEq, D.int.injEq, exists_eq_left', exists_eq_left, W_listT, List.set_set, lt_push, len_lt, List.getElem?_append_left, W_fldC, W_setFC, W_clsC, W_methC, W_lenC, W_ixC, W_ixTO, W_isLstC, W_appC, W_listC, W_tupC, W_truC, W_slC, W_slTT, W_addTT, W_addC, W_setIC, W_getIC, W_delC, W_isDctC, W_dgetC, W_dictC, W_dict0, W_eqS, W_neS, W_eqB, W_neB, W_meth, W_make, W_setF, W_augF, W_callK, W_chain, W_chainT, W_del, W_gSub, W_augI, W_get1, W_srcC, WCell_some, WO_some, at0, at1, at2, at3, at4, at5, ix0, ix1, at_nat, memS, lookF, putFD, String.reduceEq, String.reduceBEq, if_true, if_false, Bool.false_eq_true, Option.isNone_none, true_and, and_true, and_self, get_push, isNonD, Bool.not_true, Bool.not_false, cs_from_first, cs_own, cs_others, cs_spare, cs_locks, cs_closed, sl, s1, s2, ea]
    exact ⟨by decide, q _ F⟩
theorem receipts_law (hd : Dk h) (q : ∀ (rs : List (Int × Int)) n h', Fr [] h h' → Dk h' → 2 ≤ n → h'[n]? = some (.dct (rK rs)) → Q (.ref n) h') : W (F__law_drawn_receipts [.ref 1]) h Q := by
  unfold F__law_drawn_receipts B__law_drawn_receipts
  refine w_run rfl ?_
  have h1l := hd.lt
  simp (maxDischargeDepth := 9) only [W_seq, W_asg, W_set, W_V, WV_some, W_C, W_op, W_cmpT, W_isB, W_un, W_tru, W_andT, W_orT, W_notT, W_andV, W_orV, W_notV, W_ife, W_nil, W_cons, W_tup, W_lst, W_addI, W_subI, W_iaddI, W_negI, W_mulI, W_fdivI, W_modI, W_powI, W_cmpI, W_isB_bl, W_isNB, W_isN, W_isntB, W_isntN, W_eqI, W_neI, W_pass, W_brk, W_cont, W_drop, W_rt, W_rtN, W_ifS, W_gsNil, W_gsCons, W_gTup, W_aug, W_call, W_B, RtN_rt, RtN_nx, W_abs, W_intI, W_intB, W_noPart, W_part, W_sl, W_lm, W_lm0, W_iter, W_range1, W_range2, W_forE, W_revE, W_compE, W_yes, W_lenT, W_truB, W_truI, List.append_nil, List.getElem?_cons_zero, List.getElem?_cons_succ, List.set_cons_zero, List.set_cons_succ, List.getElem?_set_self, List.getElem?_set_ne, lt_set, ne_eq, Nat.reduceEqDiff, not_false_eq_true, Nat.reduceLT, Nat.zero_ne_one, Nat.one_ne_zero, Nat.lt_add_one, Nat.zero_lt_succ, startD, List.map_cons, List.map_nil, List.length_cons, List.length_nil, List.cons_append, List.nil_append, Nat.reduceAdd, Nat.reduceSub, Nat.zero_add, List.replicate_succ, List.replicate_zero, W_inSC, List.all_cons, List.all_nil, flatD, List.any_cons, List.any_nil, eqF, Bool.and_true, Bool.or_false, Bool.or_true, Bool.true_or, Bool.false_or, Bool.true_and, Bool.false_and, Option.some.injEq, D.int.injEq, exists_eq_left', exists_eq_left, W_listT, List.set_set, lt_push, len_lt, List.getElem?_append_left, W_fldC, W_setFC, W_clsC, W_methC, W_lenC, W_ixC, W_ixTO, W_isLstC, W_appC, W_listC, W_tupC, W_truC, W_slC, W_slTT, W_addTT, W_addC, W_setIC, W_getIC, W_delC, W_isDctC, W_dgetC, W_dictC, W_dict0, W_eqS, W_neS, W_eqB, W_neB, W_meth, W_make, W_setF, W_augF, W_callK, W_chain, W_chainT, W_del, W_gSub, W_augI, W_get1, W_srcC, WCell_some, WO_some, at0, at1, at2, at3, at4, at5, ix0, ix1, at_nat, memS, lookF, putFD, String.reduceEq, String.reduceBEq, if_true, if_false, Bool.false_eq_true, Option.isNone_none, true_and, and_true, and_self, get_push, isNonD, Bool.not_true, Bool.not_false, cs_from_first, cs_own, cs_others, cs_spare, cs_locks, cs_closed]
  refine take_law (Fr.push (S := []).dk hd) (by decide) fun n h1 n0 n1 F1 hd1 => ?_
  have e1 : h1[h.length]? = some (.dct []) := F1.keep get_push (by simp) (by omega)
  simp (maxDischargeDepth := 9) only [W_seq, W_asg, W_set, W_V, WV_some, W_C, W_op, W_cmpT, W_isB, W_un, W_tru, W_andT, W_orT, W_notT, W_andV, W_orV, W_notV, W_ife, W_nil, W_cons, W_tup, W_lst, W_addI, W_subI, W_iaddI, W_negI, W_mulI, W_fdivI, W_modI, W_powI, W_cmpI, W_isB_bl, W_isNB, W_isN, W_isntB, W_isntN, W_eqI, W_neI, W_pass, W_brk, W_cont, W_drop, W_rt, W_rtN, W_ifS, W_gsNil, W_gsCons, W_gTup, W_aug, W_call, W_B, RtN_rt, RtN_nx, W_abs, W_intI, W_intB, W_noPart, W_part, W_sl, W_lm, W_lm0, W_iter, W_range1, W_range2, W_forE, W_revE, W_compE, W_yes, W_lenT, W_truB, W_truI, List.append_nil, List.getElem?_cons_zero, List.getElem?_cons_succ, List.set_cons_zero, List.set_cons_succ, List.getElem?_set_self, List.getElem?_set_ne, lt_set, ne_eq, Nat.reduceEqDiff, not_false_eq_true, Nat.reduceLT, Nat.zero_ne_one, Nat.one_ne_zero, Nat.lt_add_one, Nat.zero_lt_succ, startD, List.map_cons, List.map_nil, List.length_cons, List.length_nil, List.cons_append, List.nil_append, Nat.reduceAdd, Nat.reduceSub, Nat.zero_add, List.replicate_succ, List.replicate_zero, W_inSC, List.all_cons, List.all_nil, flatD, List.any_cons, List.any_nil, eqF, Bool.and_true, Bool.or_false, Bool.or_true, Bool.true_or, Bool.false_or, Bool.true_and, Bool.false_and, Option.some.injEq, D.int.injEq, exists_eq_left', exists_eq_left, W_listT, List.set_set, lt_push, len_lt, List.getElem?_append_left, W_fldC, W_setFC, W_clsC, W_methC, W_lenC, W_ixC, W_ixTO, W_isLstC, W_appC, W_listC, W_tupC, W_truC, W_slC, W_slTT, W_addTT, W_addC, W_setIC, W_getIC, W_delC, W_isDctC, W_dgetC, W_dictC, W_dict0, W_eqS, W_neS, W_eqB, W_neB, W_meth, W_make, W_setF, W_augF, W_callK, W_chain, W_chainT, W_del, W_gSub, W_augI, W_get1, W_srcC, WCell_some, WO_some, at0, at1, at2, at3, at4, at5, ix0, ix1, at_nat, memS, lookF, putFD, String.reduceEq, String.reduceBEq, if_true, if_false, Bool.false_eq_true, Option.isNone_none, true_and, and_true, and_self, get_push, isNonD, Bool.not_true, Bool.not_false, cs_from_first, cs_own, cs_others, cs_spare, cs_locks, cs_closed]
  refine ⟨_, rfl, by omega, ?_⟩
  obtain ⟨I, hI⟩ : ∃ I : Nat → Ev → Hd → Prop, ∀ i σ h', I i σ h' = (Fr [] h h' ∧ Dk h' ∧ σ.length = 3 ∧ σ[0]? = some (some (.ref 1)) ∧ σ[1]? = some (some (.ref h.length)) ∧ ∃ rs : List (Int × Int), h'[h.length]? = some (.dct (rK rs)) ∧ rs.length ≤ i) := ⟨_, fun _ _ _ => rfl⟩
  refine w_forR I (by rw [hI]; exact ⟨Fr.push.trans F1, hd1, by simp, by simp, by simp, [], e1, by simp⟩) ?_ ?_
  · intro i σ h' hi z
    rw [hI] at z
    obtain ⟨F, hd, sl, s0, s1, rs, e, hl⟩ := z
    unfold Turn L__law_drawn_receipts_0
    simp (maxDischargeDepth := 9) only [W_seq, W_asg, W_set, W_V, WV_some, W_C, W_op, W_cmpT, W_isB, W_un, W_tru, W_andT, W_orT, W_notT, W_andV, W_orV, W_notV, W_ife, W_nil, W_cons, W_tup, W_lst, W_addI, W_subI, W_iaddI, W_negI, W_mulI, W_fdivI, W_modI, W_powI, W_cmpI, W_isB_bl, W_isNB, W_isN, W_isntB, W_isntN, W_eqI, W_neI, W_pass, W_brk, W_cont, W_drop, W_rt, W_rtN, W_ifS, W_gsNil, W_gsCons, W_gTup, W_aug, W_call, W_B, RtN_rt, RtN_nx, W_abs, W_intI, W_intB, W_noPart, W_part, W_sl, W_lm, W_lm0, W_iter, W_range1, W_range2, W_forE, W_revE, W_compE, W_yes, W_lenT, W_truB, W_truI, List.append_nil, List.getElem?_cons_zero, List.getElem?_cons_succ, List.set_cons_zero, List.set_cons_succ, List.getElem?_set_self, List.getElem?_set_ne, lt_set, ne_eq, Nat.reduceEqDiff, not_false_eq_true, Nat.reduceLT, Nat.zero_ne_one, Nat.one_ne_zero, Nat.lt_add_one, Nat.zero_lt_succ, startD, List.map_cons, List.map_nil, List.length_cons, List.length_nil, List.cons_append, List.nil_append, Nat.reduceAdd, Nat.reduceSub, Nat.zero_add, List.replicate_succ, List.replicate_zero, W_inSC, List.all_cons, List.all_nil, flatD, List.any_cons, List.any_nil, eqF, Bool.and_true, Bool.or_false, Bool.or_true, Bool.true_or, Bool.false_or, Bool.true_and, Bool.false_and, Option.some.injEq, D.int.injEq, exists_eq_left', exists_eq_left, W_listT, List.set_set, lt_push, len_lt, List.getElem?_append_left, W_fldC, W_setFC, W_clsC, W_methC, W_lenC, W_ixC, W_ixTO, W_isLstC, W_appC, W_listC, W_tupC, W_truC, W_slC, W_slTT, W_addTT, W_addC, W_setIC, W_getIC, W_delC, W_isDctC, W_dgetC, W_dictC, W_dict0, W_eqS, W_neS, W_eqB, W_neB, W_meth, W_make, W_setF, W_augF, W_callK, W_chain, W_chainT, W_del, W_gSub, W_augI, W_get1, W_srcC, WCell_some, WO_some, at0, at1, at2, at3, at4, at5, ix0, ix1, at_nat, memS, lookF, putFD, String.reduceEq, String.reduceBEq, if_true, if_false, Bool.false_eq_true, Option.isNone_none, true_and, and_true, and_self, get_push, isNonD, Bool.not_true, Bool.not_false, cs_from_first, cs_own, cs_others, cs_spare, cs_locks, cs_closed, sl, s0, s1]
    refine take_law hd (by decide) fun a ha a0 a1 Fa hda => ?_
    simp (maxDischargeDepth := 9) only [W_seq, W_asg, W_set, W_V, WV_some, W_C, W_op, W_cmpT, W_isB, W_un, W_tru, W_andT, W_orT, W_notT, W_andV, W_orV, W_notV, W_ife, W_nil, W_cons, W_tup, W_lst, W_addI, W_subI, W_iaddI, W_negI, W_mulI, W_fdivI, W_modI, W_powI, W_cmpI, W_isB_bl, W_isNB, W_isN, W_isntB, W_isntN, W_eqI, W_neI, W_pass, W_brk, W_cont, W_drop, W_rt, W_rtN, W_ifS, W_gsNil, W_gsCons, W_gTup, W_aug, W_call, W_B, RtN_rt, RtN_nx, W_abs, W_intI, W_intB, W_noPart, W_part, W_sl, W_lm, W_lm0, W_iter, W_range1, W_range2, W_forE, W_revE, W_compE, W_yes, W_lenT, W_truB, W_truI, List.append_nil, List.getElem?_cons_zero, List.getElem?_cons_succ, List.set_cons_zero, List.set_cons_succ, List.getElem?_set_self, List.getElem?_set_ne, lt_set, ne_eq, Nat.reduceEqDiff, not_false_eq_true, Nat.reduceLT, Nat.zero_ne_one, Nat.one_ne_zero, Nat.lt_add_one, Nat.zero_lt_succ, startD, List.map_cons, List.map_nil, List.length_cons, List.length_nil, List.cons_append, List.nil_append, Nat.reduceAdd, Nat.reduceSub, Nat.zero_add, List.replicate_succ, List.replicate_zero, W_inSC, List.all_cons, List.all_nil, flatD, List.any_cons, List.any_nil, eqF, Bool.and_true, Bool.or_false, Bool.or_true, Bool.true_or, Bool.false_or, Bool.true_and, Bool.false_and, Option.some.injEq, D.int.injEq, exists_eq_left', exists_eq_left, W_listT, List.set_set, lt_push, len_lt, List.getElem?_append_left, W_fldC, W_setFC, W_clsC, W_methC, W_lenC, W_ixC, W_ixTO, W_isLstC, W_appC, W_listC, W_tupC, W_truC, W_slC, W_slTT, W_addTT, W_addC, W_setIC, W_getIC, W_delC, W_isDctC, W_dgetC, W_dictC, W_dict0, W_eqS, W_neS, W_eqB, W_neB, W_meth, W_make, W_setF, W_augF, W_callK, W_chain, W_chainT, W_del, W_gSub, W_augI, W_get1, W_srcC, WCell_some, WO_some, at0, at1, at2, at3, at4, at5, ix0, ix1, at_nat, memS, lookF, putFD, String.reduceEq, String.reduceBEq, if_true, if_false, Bool.false_eq_true, Option.isNone_none, true_and, and_true, and_self, get_push, isNonD, Bool.not_true, Bool.not_false, cs_from_first, cs_own, cs_others, cs_spare, cs_locks, cs_closed, sl, s0, s1]
    refine take_law hda (by decide) fun b hb b0 b1 Fb hdb => ?_
    simp (maxDischargeDepth := 9) only [W_seq, W_asg, W_set, W_V, WV_some, W_C, W_op, W_cmpT, W_isB, W_un, W_tru, W_andT, W_orT, W_notT, W_andV, W_orV, W_notV, W_ife, W_nil, W_cons, W_tup, W_lst, W_addI, W_subI, W_iaddI, W_negI, W_mulI, W_fdivI, W_modI, W_powI, W_cmpI, W_isB_bl, W_isNB, W_isN, W_isntB, W_isntN, W_eqI, W_neI, W_pass, W_brk, W_cont, W_drop, W_rt, W_rtN, W_ifS, W_gsNil, W_gsCons, W_gTup, W_aug, W_call, W_B, RtN_rt, RtN_nx, W_abs, W_intI, W_intB, W_noPart, W_part, W_sl, W_lm, W_lm0, W_iter, W_range1, W_range2, W_forE, W_revE, W_compE, W_yes, W_lenT, W_truB, W_truI, List.append_nil, List.getElem?_cons_zero, List.getElem?_cons_succ, List.set_cons_zero, List.set_cons_succ, List.getElem?_set_self, List.getElem?_set_ne, lt_set, ne_eq, Nat.reduceEqDiff, not_false_eq_true, Nat.reduceLT, Nat.zero_ne_one, Nat.one_ne_zero, Nat.lt_add_one, Nat.zero_lt_succ, startD, List.map_cons, List.map_nil, List.length_cons, List.length_nil, List.cons_append, List.nil_append, Nat.reduceAdd, Nat.reduceSub, Nat.zero_add, List.replicate_succ, List.replicate_zero, W_inSC, List.all_cons, List.all_nil, flatD, List.any_cons, List.any_nil, eqF, Bool.and_true, Bool.or_false, Bool.or_true, Bool.true_or, Bool.false_or, Bool.true_and, Bool.false_and, Option.some.injEq, D.int.injEq, exists_eq_left', exists_eq_left, W_listT, List.set_set, lt_push, len_lt, List.getElem?_append_left, W_fldC, W_setFC, W_clsC, W_methC, W_lenC, W_ixC, W_ixTO, W_isLstC, W_appC, W_listC, W_tupC, W_truC, W_slC, W_slTT, W_addTT, W_addC, W_setIC, W_getIC, W_delC, W_isDctC, W_dgetC, W_dictC, W_dict0, W_eqS, W_neS, W_eqB, W_neB, W_meth, W_make, W_setF, W_augF, W_callK, W_chain, W_chainT, W_del, W_gSub, W_augI, W_get1, W_srcC, WCell_some, WO_some, at0, at1, at2, at3, at4, at5, ix0, ix1, at_nat, memS, lookF, putFD, String.reduceEq, String.reduceBEq, if_true, if_false, Bool.false_eq_true, Option.isNone_none, true_and, and_true, and_self, get_push, isNonD, Bool.not_true, Bool.not_false, cs_from_first, cs_own, cs_others, cs_spare, cs_locks, cs_closed, sl, s0, s1]
    refine secret_law b0 b1 fun sc hc Fc => ?_
    simp (maxDischargeDepth := 9) only [W_seq, W_asg, W_set, W_V, WV_some, W_C, W_op, W_cmpT, W_isB, W_un, W_tru, W_andT, W_orT, W_notT, W_andV, W_orV, W_notV, W_ife, W_nil, W_cons, W_tup, W_lst, W_addI, W_subI, W_iaddI, W_negI, W_mulI, W_fdivI, W_modI, W_powI, W_cmpI, W_isB_bl, W_isNB, W_isN, W_isntB, W_isntN, W_eqI, W_neI, W_pass, W_brk, W_cont, W_drop, W_rt, W_rtN, W_ifS, W_gsNil, W_gsCons, W_gTup, W_aug, W_call, W_B, RtN_rt, RtN_nx, W_abs, W_intI, W_intB, W_noPart, W_part, W_sl, W_lm, W_lm0, W_iter, W_range1, W_range2, W_forE, W_revE, W_compE, W_yes, W_lenT, W_truB, W_truI, List.append_nil, List.getElem?_cons_zero, List.getElem?_cons_succ, List.set_cons_zero, List.set_cons_succ, List.getElem?_set_self, List.getElem?_set_ne, lt_set, ne_eq, Nat.reduceEqDiff, not_false_eq_true, Nat.reduceLT, Nat.zero_ne_one, Nat.one_ne_zero, Nat.lt_add_one, Nat.zero_lt_succ, startD, List.map_cons, List.map_nil, List.length_cons, List.length_nil, List.cons_append, List.nil_append, Nat.reduceAdd, Nat.reduceSub, Nat.zero_add, List.replicate_succ, List.replicate_zero, W_inSC, List.all_cons, List.all_nil, flatD, List.any_cons, List.any_nil, eqF, Bool.and_true, Bool.or_false, Bool.or_true, Bool.true_or, Bool.false_or, Bool.true_and, Bool.false_and, Option.some.injEq, D.int.injEq, exists_eq_left', exists_eq_left, W_listT, List.set_set, lt_push, len_lt, List.getElem?_append_left, W_fldC, W_setFC, W_clsC, W_methC, W_lenC, W_ixC, W_ixTO, W_isLstC, W_appC, W_listC, W_tupC, W_truC, W_slC, W_slTT, W_addTT, W_addC, W_setIC, W_getIC, W_delC, W_isDctC, W_dgetC, W_dictC, W_dict0, W_eqS, W_neS, W_eqB, W_neB, W_meth, W_make, W_setF, W_augF, W_callK, W_chain, W_chainT, W_del, W_gSub, W_augI, W_get1, W_srcC, WCell_some, WO_some, at0, at1, at2, at3, at4, at5, ix0, ix1, at_nat, memS, lookF, putFD, String.reduceEq, String.reduceBEq, if_true, if_false, Bool.false_eq_true, Option.isNone_none, true_and, and_true, and_self, get_push, isNonD, Bool.not_true, Bool.not_false, cs_from_first, cs_own, cs_others, cs_spare, cs_locks, cs_closed, sl, s0, s1]
    refine lkey_law ?_
    have ec := ((Fa.trans Fb).trans Fc).keep e (by simp) (by omega)
    have lc := get_lt ec
    simp (maxDischargeDepth := 9) only [W_seq, W_asg, W_set, W_V, WV_some, W_C, W_op, W_cmpT, W_isB, W_un, W_tru, W_andT, W_orT, W_notT, W_andV, W_orV, W_notV, W_ife, W_nil, W_cons, W_tup, W_lst, W_addI, W_subI, W_iaddI, W_negI, W_mulI, W_fdivI, W_modI, W_powI, W_cmpI, W_isB_bl, W_isNB, W_isN, W_isntB, W_isntN, W_eqI, W_neI, W_pass, W_brk, W_cont, W_drop, W_rt, W_rtN, W_ifS, W_gsNil, W_gsCons, W_gTup, W_aug, W_call, W_B, RtN_rt, RtN_nx, W_abs, W_intI, W_intB, W_noPart, W_part, W_sl, W_lm, W_lm0, W_iter, W_range1, W_range2, W_forE, W_revE, W_compE, W_yes, W_lenT, W_truB, W_truI, List.append_nil, List.getElem?_cons_zero, List.getElem?_cons_succ, List.set_cons_zero, List.set_cons_succ, List.getElem?_set_self, List.getElem?_set_ne, lt_set, ne_eq, Nat.reduceEqDiff, not_false_eq_true, Nat.reduceLT, Nat.zero_ne_one, Nat.one_ne_zero, Nat.lt_add_one, Nat.zero_lt_succ, startD, List.map_cons, List.map_nil, List.length_cons, List.length_nil, List.cons_append, List.nil_append, Nat.reduceAdd, Nat.reduceSub, Nat.zero_add, List.replicate_succ, List.replicate_zero, W_inSC, List.all_cons, List.all_nil, flatD, List.any_cons, List.any_nil, eqF, Bool.and_true, Bool.or_false, Bool.or_true, Bool.true_or, Bool.false_or, Bool.true_and, Bool.false_and, Option.some.injEq, D.int.injEq, exists_eq_left', exists_eq_left, W_listT, List.set_set, lt_push, len_lt, List.getElem?_append_left, W_fldC, W_setFC, W_clsC, W_methC, W_lenC, W_ixC, W_ixTO, W_isLstC, W_appC, W_listC, W_tupC, W_truC, W_slC, W_slTT, W_addTT, W_addC, W_setIC, W_getIC, W_delC, W_isDctC, W_dgetC, W_dictC, W_dict0, W_eqS, W_neS, W_eqB, W_neB, W_meth, W_make, W_setF, W_augF, W_callK, W_chain, W_chainT, W_del, W_gSub, W_augI, W_get1, W_srcC, WCell_some, WO_some, at0, at1, at2, at3, at4, at5, ix0, ix1, at_nat, memS, lookF, putFD, String.reduceEq, String.reduceBEq, if_true, if_false, Bool.false_eq_true, Option.isNone_none, true_and, and_true, and_self, get_push, isNonD, Bool.not_true, Bool.not_false, cs_from_first, cs_own, cs_others, cs_spare, cs_locks, cs_closed, sl, s0, s1, ec]
    refine ⟨by unfold rK; simp; show _ < 1000000; omega, ?_⟩
    rw [hI]
    refine ⟨Fr.fresh (n := h.length) (((((F.trans Fa).trans Fb).trans Fc).mono fun _ _ z => by cases z).trans (.write (by simp) (by omega))) (Nat.le_refl _), (Fr.write (S := [h.length]) (by simp) (by omega)).dk (Fc.dk hdb), by simp [sl], by simp [s0], by simp [s1], putR rs (keyP sc) a, ?_, by have := put_len rs (keyP sc) a; omega⟩
    rw [get_set ec, put_rK]
  · intro σ h' z
    rw [hI] at z
    obtain ⟨F, hd, sl, s0, s1, rs, e, hl⟩ := z
    simp (maxDischargeDepth := 9) only [W_seq, W_asg, W_set, W_V, WV_some, W_C, W_op, W_cmpT, W_isB, W_un, W_tru, W_andT, W_orT, W_notT, W_andV, W_orV, W_notV, W_ife, W_nil, W_cons, W_tup, W_lst, W_addI, W_subI, W_iaddI, W_negI, W_mulI, W_fdivI, W_modI, W_powI, W_cmpI, W_isB_bl, W_isNB, W_isN, W_isntB, W_isntN, W_eqI, W_neI, W_pass, W_brk, W_cont, W_drop, W_rt, W_rtN, W_ifS, W_gsNil, W_gsCons, W_gTup, W_aug, W_call, W_B, RtN_rt, RtN_nx, W_abs, W_intI, W_intB, W_noPart, W_part, W_sl, W_lm, W_lm0, W_iter, W_range1, W_range2, W_forE, W_revE, W_compE, W_yes, W_lenT, W_truB, W_truI, List.append_nil, List.getElem?_cons_zero, List.getElem?_cons_succ, List.set_cons_zero, List.set_cons_succ, List.getElem?_set_self, List.getElem?_set_ne, lt_set, ne_eq, Nat.reduceEqDiff, not_false_eq_true, Nat.reduceLT, Nat.zero_ne_one, Nat.one_ne_zero, Nat.lt_add_one, Nat.zero_lt_succ, startD, List.map_cons, List.map_nil, List.length_cons, List.length_nil, List.cons_append, List.nil_append, Nat.reduceAdd, Nat.reduceSub, Nat.zero_add, List.replicate_succ, List.replicate_zero, W_inSC, List.all_cons, List.all_nil, flatD, List.any_cons, List.any_nil, eqF, Bool.and_true, Bool.or_false, Bool.or_true, Bool.true_or, Bool.false_or, Bool.true_and, Bool.false_and, Option.some.injEq, D.int.injEq, exists_eq_left', exists_eq_left, W_listT, List.set_set, lt_push, len_lt, List.getElem?_append_left, W_fldC, W_setFC, W_clsC, W_methC, W_lenC, W_ixC, W_ixTO, W_isLstC, W_appC, W_listC, W_tupC, W_truC, W_slC, W_slTT, W_addTT, W_addC, W_setIC, W_getIC, W_delC, W_isDctC, W_dgetC, W_dictC, W_dict0, W_eqS, W_neS, W_eqB, W_neB, W_meth, W_make, W_setF, W_augF, W_callK, W_chain, W_chainT, W_del, W_gSub, W_augI, W_get1, W_srcC, WCell_some, WO_some, at0, at1, at2, at3, at4, at5, ix0, ix1, at_nat, memS, lookF, putFD, String.reduceEq, String.reduceBEq, if_true, if_false, Bool.false_eq_true, Option.isNone_none, true_and, and_true, and_self, get_push, isNonD, Bool.not_true, Bool.not_false, cs_from_first, cs_own, cs_others, cs_spare, cs_locks, cs_closed, sl, s0, s1]
    exact q rs _ _ F hd (by omega) e
end
end Lk00

set_option Elab.async false
set_option linter.all false
set_option autoImplicit false
set_option maxRecDepth 100000
set_option maxHeartbeats 4000000
namespace Lk00
open Dt PySem
def flip (l : Lk) : Lk := { l with mine := !l.mine }
def turn (s : Stt) : Stt := ⟨s.ch, s.num + 1, s.b, s.a, s.locks.map flip, s.cl⟩
def flipD (d : Dr) : Dr := { d with locks := d.locks.map flip }
theorem mk_flip (ff : Bool) (sp : Int) (d : Dr) (m : Mv) : mk (!ff) sp (flipD d) m = (mk ff sp d m).map flipD := by
  have er : ∀ p, (d.locks.map flip).eraseIdx p = (d.locks.eraseIdx p).map flip := fun p => erase_map flip d.locks p
  have e1 : ∀ a, spend (flipD d) sp a = spend d sp a := fun _ => rfl
  have e2 : (flipD d).locks.length = d.locks.length := by simp [flipD]
  cases m with
  | lock k a dl =>
    simp only [mk, e1, e2]
    by_cases c : spend d sp a = true ∧ d.locks.length < 8
    · simp only [c, and_self, if_true, Option.map_some]; simp [flip, flipD]
    · simp only [c, if_false, Option.map_none]
  | transfer a =>
    simp only [mk, e1]
    by_cases c : spend d sp a = true
    · simp only [c, if_true, Option.map_some]; rfl
    · simp only [c, if_false, Option.map_none]; rfl
  | finish =>
    clear er e1 e2
    obtain ⟨own, oth, ls, cl⟩ := d
    simp only [mk, flipD]
    cases ls with
    | nil => cases cl <;> simp [flipD]
    | cons x xs => simp
  | paid p s =>
    clear e1 e2
    obtain ⟨own, oth, ls, cl⟩ := d
    simp only [mk, flipD, List.getElem?_map]
    cases hl : ls[p]? with
    | none => rfl
    | some l =>
      simp only [Option.map_some, flip, er]
      by_cases c : l.mine = ff
      · simp [c]
      · have : (!l.mine) ≠ !ff := by simpa using c
        by_cases c2 : l.key = keyP s
        · simp only [c, c2, this, ne_eq, not_true_eq_false, or_false, if_false, Option.map_some, flipD]
        · simp [c, c2]
  | dropped p =>
    clear e1 e2
    obtain ⟨own, oth, ls, cl⟩ := d
    simp only [mk, flipD, List.getElem?_map]
    cases hl : ls[p]? with
    | none => rfl
    | some l =>
      simp only [Option.map_some, flip]
      have e2 := er p
      by_cases c : l.mine = ff
      · simp [c]
      · simp [c, flipD, e2]
  | back p =>
    clear e1 e2
    obtain ⟨own, oth, ls, cl⟩ := d
    simp only [mk, flipD, List.getElem?_map]
    cases hl : ls[p]? with
    | none => rfl
    | some l =>
      simp only [Option.map_some, flip]
      have e2 := er p
      by_cases c : l.mine = ff
      · simp [c, flipD, e2]
      · simp [c]
theorem mks_flip (ff : Bool) (sp : Int) : ∀ (ms : List Mv) (d : Dr), mks (!ff) sp (flipD d) ms = (mks ff sp d ms).map flipD
  | [], d => rfl
  | m :: ms, d => by
    simp only [mks, mk_flip]
    cases mk ff sp d m with
    | none => rfl
    | some d' => exact mks_flip ff sp ms d'
theorem ff_turn (s : Stt) : ffP (turn s) = !ffP s := by
  unfold ffP turn; rw [Bool.eq_iff_iff]; simp; omega
theorem nx_turn (s : Stt) (ms : List Mv) (c1 c2 : Int) : nx (turn s) ms c2 c1 = (nx s ms c1 c2).map turn := by
  have e1 : start (turn s) = flipD (start s) := by
    unfold start flipD; rw [ff_turn]; cases ffP s <;> rfl
  have e2 : spP (turn s) c2 c1 = spP s c1 c2 := by
    unfold spP; rw [ff_turn]; cases ffP s <;> rfl
  unfold nx
  rw [show (turn s).cl = s.cl from rfl, e1, e2, ff_turn, mks_flip]
  split
  · rfl
  · cases mks (ffP s) (spP s c1 c2) (start s) ms with
    | none => rfl
    | some d =>
      simp only [Option.map_some]
      congr 1
      unfold fin'
      rw [ff_turn]
      cases ffP s <;> rfl
theorem opn_flip (rs : List (Int × Int)) (l : Lk) : (opn rs (flip l) == (flip l).mine) = !(opn rs l == l.mine) := by
  have : opn rs (flip l) = opn rs l := rfl
  rw [this]
  unfold flip
  cases opn rs l <;> cases l.mine <;> rfl
theorem fA_flip (rs : List (Int × Int)) (ls : List Lk) : fA rs (ls.map flip) = sB rs ls := by
  unfold fA sB
  rw [List.map_map]
  congr 1
  apply List.map_congr_left
  intro l _
  simp only [Function.comp, opn_flip]
  cases opn rs l == l.mine <;> rfl
theorem sB_flip (rs : List (Int × Int)) (ls : List Lk) : sB rs (ls.map flip) = fA rs ls := by
  unfold fA sB
  rw [List.map_map]
  congr 1
  apply List.map_congr_left
  intro l _
  simp only [Function.comp, opn_flip]
  cases opn rs l == l.mine <;> rfl
theorem rp_pairs {h : Hd} {n : Nat} {a b c d : Int} (hn : 2 ≤ n) (e : h[n]? = some (.lst [.tup [.int a, .int b], .tup [.int c, .int d]])) : Rp 2 12 h 3 (.ref n) (.list [.tuple [.int a, .int b], .tuple [.int c, .int d]]) :=
  ⟨n, _, rfl, ⟨hn, by omega⟩, e, by show 2 ≤ 12; decide, .cons ⟨_, rfl, by show 2 ≤ 12; decide, .cons rfl (.cons rfl .nil)⟩ (.cons ⟨_, rfl, by show 2 ≤ 12; decide, .cons rfl (.cons rfl .nil)⟩ .nil)⟩
section
variable {h : Hd} {Q : D → Hd → Prop}
theorem turned_law {s : Stt} (h2 : 2 ≤ h.length) (sz : s.locks.length ≤ 8) (q : ∀ h', Fr [] h h' → Q (sD (turn s)) h') : W (F__law_turned_state [sD s]) h Q := by
  unfold F__law_turned_state B__law_turned_state
  refine w_run rfl ?_
  simp (maxDischargeDepth := 9) only [W_seq, W_asg, W_set, W_V, WV_some, W_C, W_op, W_cmpT, W_isB, W_un, W_tru, W_andT, W_orT, W_notT, W_andV, W_orV, W_notV, W_ife, W_nil, W_cons, W_tup, W_lst, W_addI, W_subI, W_iaddI, W_negI, W_mulI, W_fdivI, W_modI, W_powI, W_cmpI, W_isB_bl, W_isNB, W_isN, W_isntB, W_isntN, W_eqI, W_neI, W_pass, W_brk, W_cont, W_drop, W_rt, W_rtN, W_ifS, W_gsNil, W_gsCons, W_gTup, W_aug, W_call, W_B, RtN_rt, RtN_nx, W_abs, W_intI, W_intB, W_noPart, W_part, W_sl, W_lm, W_lm0, W_iter, W_range1, W_range2, W_forE, W_revE, W_compE, W_yes, W_lenT, W_truB, W_truI, List.append_nil, List.getElem?_cons_zero, List.getElem?_cons_succ, List.set_cons_zero, List.set_cons_succ, List.getElem?_set_self, List.getElem?_set_ne, lt_set, ne_eq, Nat.reduceEqDiff, not_false_eq_true, Nat.reduceLT, Nat.zero_ne_one, Nat.one_ne_zero, Nat.lt_add_one, Nat.zero_lt_succ, startD, List.map_cons, List.map_nil, List.length_cons, List.length_nil, List.cons_append, List.nil_append, Nat.reduceAdd, Nat.reduceSub, Nat.zero_add, List.replicate_succ, List.replicate_zero, W_inSC, List.all_cons, List.all_nil, flatD, List.any_cons, List.any_nil, eqF, Bool.and_true, Bool.or_false, Bool.or_true, Bool.true_or, Bool.false_or, Bool.true_and, Bool.false_and, Option.some.injEq, D.int.injEq, exists_eq_left', exists_eq_left, W_listT, List.set_set, lt_push, len_lt, List.getElem?_append_left, W_fldC, W_setFC, W_clsC, W_methC, W_lenC, W_ixC, W_ixTO, W_isLstC, W_appC, W_listC, W_tupC, W_truC, W_slC, W_slTT, W_addTT, W_addC, W_setIC, W_getIC, W_delC, W_isDctC, W_dgetC, W_dictC, W_dict0, W_eqS, W_neS, W_eqB, W_neB, W_meth, W_make, W_setF, W_augF, W_callK, W_chain, W_chainT, W_del, W_gSub, W_augI, W_get1, W_srcC, WCell_some, WO_some, at0, at1, at2, at3, at4, at5, ix0, ix1, at_nat, memS, lookF, putFD, String.reduceEq, String.reduceBEq, if_true, if_false, Bool.false_eq_true, Option.isNone_none, true_and, and_true, and_self, get_push, isNonD, Bool.not_true, Bool.not_false, cs_from_first, cs_own, cs_others, cs_spare, cs_locks, cs_closed, sD]
  rw [W_srcTp]
  obtain ⟨I, hI⟩ : ∃ I : Nat → Hd → Prop, ∀ i h', I i h' = (Fr [] h h' ∧ h'[h.length]? = some (.lst ((s.locks.take i).map fun l => lD (flip l)))) := ⟨_, fun _ _ => rfl⟩
  refine w_compT I (by rw [hI]; exact ⟨.push, by simp⟩) ?_ ?_
  · intro i h' hi z
    rw [hI] at z
    obtain ⟨F, e⟩ := z
    have hi' : i < s.locks.length := by simpa using hi
    rw [List.getElem_map]
    have tk := take_snoc s.locks i hi'
    generalize s.locks[i] = l at tk
    unfold TurnC
    simp (maxDischargeDepth := 9) only [W_seq, W_asg, W_set, W_V, WV_some, W_C, W_op, W_cmpT, W_isB, W_un, W_tru, W_andT, W_orT, W_notT, W_andV, W_orV, W_notV, W_ife, W_nil, W_cons, W_tup, W_lst, W_addI, W_subI, W_iaddI, W_negI, W_mulI, W_fdivI, W_modI, W_powI, W_cmpI, W_isB_bl, W_isNB, W_isN, W_isntB, W_isntN, W_eqI, W_neI, W_pass, W_brk, W_cont, W_drop, W_rt, W_rtN, W_ifS, W_gsNil, W_gsCons, W_gTup, W_aug, W_call, W_B, RtN_rt, RtN_nx, W_abs, W_intI, W_intB, W_noPart, W_part, W_sl, W_lm, W_lm0, W_iter, W_range1, W_range2, W_forE, W_revE, W_compE, W_yes, W_lenT, W_truB, W_truI, List.append_nil, List.getElem?_cons_zero, List.getElem?_cons_succ, List.set_cons_zero, List.set_cons_succ, List.getElem?_set_self, List.getElem?_set_ne, lt_set, ne_eq, Nat.reduceEqDiff, not_false_eq_true, Nat.reduceLT, Nat.zero_ne_one, Nat.one_ne_zero, Nat.lt_add_one, Nat.zero_lt_succ, startD, List.map_cons, List.map_nil, List.length_cons, List.length_nil, List.cons_append, List.nil_append, Nat.reduceAdd, Nat.reduceSub, Nat.zero_add, List.replicate_succ, List.replicate_zero, W_inSC, List.all_cons, List.all_nil, flatD, List.any_cons, List.any_nil, eqF, Bool.and_true, Bool.or_false, Bool.or_true, Bool.true_or, Bool.false_or, Bool.true_and, Bool.false_and, Option.some.injEq, D.int.injEq, exists_eq_left', exists_eq_left, W_listT, List.set_set, lt_push, len_lt, List.getElem?_append_left, W_fldC, W_setFC, W_clsC, W_methC, W_lenC, W_ixC, W_ixTO, W_isLstC, W_appC, W_listC, W_tupC, W_truC, W_slC, W_slTT, W_addTT, W_addC, W_setIC, W_getIC, W_delC, W_isDctC, W_dgetC, W_dictC, W_dict0, W_eqS, W_neS, W_eqB, W_neB, W_meth, W_make, W_setF, W_augF, W_callK, W_chain, W_chainT, W_del, W_gSub, W_augI, W_get1, W_srcC, WCell_some, WO_some, at0, at1, at2, at3, at4, at5, ix0, ix1, at_nat, memS, lookF, putFD, String.reduceEq, String.reduceBEq, if_true, if_false, Bool.false_eq_true, Option.isNone_none, true_and, and_true, and_self, get_push, isNonD, Bool.not_true, Bool.not_false, cs_from_first, cs_own, cs_others, cs_spare, cs_locks, cs_closed, lD, wipeD, e]
    refine ⟨by decide, _, rfl, by simp; show _ < 1000000; omega, ?_⟩
    rw [hI]
    refine ⟨Fr.fresh (n := h.length) ((F.mono fun _ _ z => by cases z).trans (.write (by simp) (by omega))) (Nat.le_refl _), ?_⟩
    rw [get_set e, ← tk]; simp [lD, flip]
  · intro h' z
    rw [hI] at z
    obtain ⟨F, e⟩ := z
    rw [List.length_map, List.take_length] at e
    simp (maxDischargeDepth := 9) only [W_seq, W_asg, W_set, W_V, WV_some, W_C, W_op, W_cmpT, W_isB, W_un, W_tru, W_andT, W_orT, W_notT, W_andV, W_orV, W_notV, W_ife, W_nil, W_cons, W_tup, W_lst, W_addI, W_subI, W_iaddI, W_negI, W_mulI, W_fdivI, W_modI, W_powI, W_cmpI, W_isB_bl, W_isNB, W_isN, W_isntB, W_isntN, W_eqI, W_neI, W_pass, W_brk, W_cont, W_drop, W_rt, W_rtN, W_ifS, W_gsNil, W_gsCons, W_gTup, W_aug, W_call, W_B, RtN_rt, RtN_nx, W_abs, W_intI, W_intB, W_noPart, W_part, W_sl, W_lm, W_lm0, W_iter, W_range1, W_range2, W_forE, W_revE, W_compE, W_yes, W_lenT, W_truB, W_truI, List.append_nil, List.getElem?_cons_zero, List.getElem?_cons_succ, List.set_cons_zero, List.set_cons_succ, List.getElem?_set_self, List.getElem?_set_ne, lt_set, ne_eq, Nat.reduceEqDiff, not_false_eq_true, Nat.reduceLT, Nat.zero_ne_one, Nat.one_ne_zero, Nat.lt_add_one, Nat.zero_lt_succ, startD, List.map_cons, List.map_nil, List.length_cons, List.length_nil, List.cons_append, List.nil_append, Nat.reduceAdd, Nat.reduceSub, Nat.zero_add, List.replicate_succ, List.replicate_zero, W_inSC, List.all_cons, List.all_nil, flatD, List.any_cons, List.any_nil, eqF, Bool.and_true, Bool.or_false, Bool.or_true, Bool.true_or, Bool.false_or, Bool.true_and, Bool.false_and, Option.some.injEq, D.int.injEq, exists_eq_left', exists_eq_left, W_listT, List.set_set, lt_push, len_lt, List.getElem?_append_left, W_fldC, W_setFC, W_clsC, W_methC, W_lenC, W_ixC, W_ixTO, W_isLstC, W_appC, W_listC, W_tupC, W_truC, W_slC, W_slTT, W_addTT, W_addC, W_setIC, W_getIC, W_delC, W_isDctC, W_dgetC, W_dictC, W_dict0, W_eqS, W_neS, W_eqB, W_neB, W_meth, W_make, W_setF, W_augF, W_callK, W_chain, W_chainT, W_del, W_gSub, W_augI, W_get1, W_srcC, WCell_some, WO_some, at0, at1, at2, at3, at4, at5, ix0, ix1, at_nat, memS, lookF, putFD, String.reduceEq, String.reduceBEq, if_true, if_false, Bool.false_eq_true, Option.isNone_none, true_and, and_true, and_self, get_push, isNonD, Bool.not_true, Bool.not_false, cs_from_first, cs_own, cs_others, cs_spare, cs_locks, cs_closed, e]
    have := q h' F
    unfold turn sD at this
    rw [List.map_map] at this
    exact ⟨by decide, this⟩
end
theorem turn_law {σ : Ev} {h : Hd} {QX : Fl → Hd → Prop} (sl : σ.length = 13) (s1 : σ[1]? = some (some (.ref 1))) (hd : Dk h)
    (q : ∀ σ' h', σ'.length = 13 → σ'[1]? = some (some (.ref 1)) → Dk h' → QX (.nx σ') h') : W (L_law_0 σ) h QX := by
  unfold L_law_0
  simp (maxDischargeDepth := 9) only [W_seq, W_asg, W_set, W_V, WV_some, W_C, W_op, W_cmpT, W_isB, W_un, W_tru, W_andT, W_orT, W_notT, W_andV, W_orV, W_notV, W_ife, W_nil, W_cons, W_tup, W_lst, W_addI, W_subI, W_iaddI, W_negI, W_mulI, W_fdivI, W_modI, W_powI, W_cmpI, W_isB_bl, W_isNB, W_isN, W_isntB, W_isntN, W_eqI, W_neI, W_pass, W_brk, W_cont, W_drop, W_rt, W_rtN, W_ifS, W_gsNil, W_gsCons, W_gTup, W_aug, W_call, W_B, RtN_rt, RtN_nx, W_abs, W_intI, W_intB, W_noPart, W_part, W_sl, W_lm, W_lm0, W_iter, W_range1, W_range2, W_forE, W_revE, W_compE, W_yes, W_lenT, W_truB, W_truI, List.append_nil, List.getElem?_cons_zero, List.getElem?_cons_succ, List.set_cons_zero, List.set_cons_succ, List.getElem?_set_self, List.getElem?_set_ne, lt_set, ne_eq, Nat.reduceEqDiff, not_false_eq_true, Nat.reduceLT, Nat.zero_ne_one, Nat.one_ne_zero, Nat.lt_add_one, Nat.zero_lt_succ, startD, List.map_cons, List.map_nil, List.length_cons, List.length_nil, List.cons_append, List.nil_append, Nat.reduceAdd, Nat.reduceSub, Nat.zero_add, List.replicate_succ, List.replicate_zero, W_inSC, List.all_cons, List.all_nil, flatD, List.any_cons, List.any_nil, eqF, Bool.and_true, Bool.or_false, Bool.or_true, Bool.true_or, Bool.false_or, Bool.true_and, Bool.false_and, Option.some.injEq, D.int.injEq, exists_eq_left', exists_eq_left, W_listT, List.set_set, lt_push, len_lt, List.getElem?_append_left, W_fldC, W_setFC, W_clsC, W_methC, W_lenC, W_ixC, W_ixTO, W_isLstC, W_appC, W_listC, W_tupC, W_truC, W_slC, W_slTT, W_addTT, W_addC, W_setIC, W_getIC, W_delC, W_isDctC, W_dgetC, W_dictC, W_dict0, W_eqS, W_neS, W_eqB, W_neB, W_meth, W_make, W_setF, W_augF, W_callK, W_chain, W_chainT, W_del, W_gSub, W_augI, W_get1, W_srcC, WCell_some, WO_some, at0, at1, at2, at3, at4, at5, ix0, ix1, at_nat, memS, lookF, putFD, String.reduceEq, String.reduceBEq, if_true, if_false, Bool.false_eq_true, Option.isNone_none, true_and, and_true, and_self, get_push, isNonD, Bool.not_true, Bool.not_false, cs_from_first, cs_own, cs_others, cs_spare, cs_locks, cs_closed, sl, s1]
  refine draw_state_law hd fun s h1 sz hc F1 hd1 => ?_
  simp (maxDischargeDepth := 9) only [W_seq, W_asg, W_set, W_V, WV_some, W_C, W_op, W_cmpT, W_isB, W_un, W_tru, W_andT, W_orT, W_notT, W_andV, W_orV, W_notV, W_ife, W_nil, W_cons, W_tup, W_lst, W_addI, W_subI, W_iaddI, W_negI, W_mulI, W_fdivI, W_modI, W_powI, W_cmpI, W_isB_bl, W_isNB, W_isN, W_isntB, W_isntN, W_eqI, W_neI, W_pass, W_brk, W_cont, W_drop, W_rt, W_rtN, W_ifS, W_gsNil, W_gsCons, W_gTup, W_aug, W_call, W_B, RtN_rt, RtN_nx, W_abs, W_intI, W_intB, W_noPart, W_part, W_sl, W_lm, W_lm0, W_iter, W_range1, W_range2, W_forE, W_revE, W_compE, W_yes, W_lenT, W_truB, W_truI, List.append_nil, List.getElem?_cons_zero, List.getElem?_cons_succ, List.set_cons_zero, List.set_cons_succ, List.getElem?_set_self, List.getElem?_set_ne, lt_set, ne_eq, Nat.reduceEqDiff, not_false_eq_true, Nat.reduceLT, Nat.zero_ne_one, Nat.one_ne_zero, Nat.lt_add_one, Nat.zero_lt_succ, startD, List.map_cons, List.map_nil, List.length_cons, List.length_nil, List.cons_append, List.nil_append, Nat.reduceAdd, Nat.reduceSub, Nat.zero_add, List.replicate_succ, List.replicate_zero, W_inSC, List.all_cons, List.all_nil, flatD, List.any_cons, List.any_nil, eqF, Bool.and_true, Bool.or_false, Bool.or_true, Bool.true_or, Bool.false_or, Bool.true_and, Bool.false_and, Option.some.injEq, D.int.injEq, exists_eq_left', exists_eq_left, W_listT, List.set_set, lt_push, len_lt, List.getElem?_append_left, W_fldC, W_setFC, W_clsC, W_methC, W_lenC, W_ixC, W_ixTO, W_isLstC, W_appC, W_listC, W_tupC, W_truC, W_slC, W_slTT, W_addTT, W_addC, W_setIC, W_getIC, W_delC, W_isDctC, W_dgetC, W_dictC, W_dict0, W_eqS, W_neS, W_eqB, W_neB, W_meth, W_make, W_setF, W_augF, W_callK, W_chain, W_chainT, W_del, W_gSub, W_augI, W_get1, W_srcC, WCell_some, WO_some, at0, at1, at2, at3, at4, at5, ix0, ix1, at_nat, memS, lookF, putFD, String.reduceEq, String.reduceBEq, if_true, if_false, Bool.false_eq_true, Option.isNone_none, true_and, and_true, and_self, get_push, isNonD, Bool.not_true, Bool.not_false, cs_from_first, cs_own, cs_others, cs_spare, cs_locks, cs_closed, sl, s1]
  refine take_law hd1 (by decide) fun c1 h2 a0 a1 F2 hd2 => ?_
  simp (maxDischargeDepth := 9) only [W_seq, W_asg, W_set, W_V, WV_some, W_C, W_op, W_cmpT, W_isB, W_un, W_tru, W_andT, W_orT, W_notT, W_andV, W_orV, W_notV, W_ife, W_nil, W_cons, W_tup, W_lst, W_addI, W_subI, W_iaddI, W_negI, W_mulI, W_fdivI, W_modI, W_powI, W_cmpI, W_isB_bl, W_isNB, W_isN, W_isntB, W_isntN, W_eqI, W_neI, W_pass, W_brk, W_cont, W_drop, W_rt, W_rtN, W_ifS, W_gsNil, W_gsCons, W_gTup, W_aug, W_call, W_B, RtN_rt, RtN_nx, W_abs, W_intI, W_intB, W_noPart, W_part, W_sl, W_lm, W_lm0, W_iter, W_range1, W_range2, W_forE, W_revE, W_compE, W_yes, W_lenT, W_truB, W_truI, List.append_nil, List.getElem?_cons_zero, List.getElem?_cons_succ, List.set_cons_zero, List.set_cons_succ, List.getElem?_set_self, List.getElem?_set_ne, lt_set, ne_eq, Nat.reduceEqDiff, not_false_eq_true, Nat.reduceLT, Nat.zero_ne_one, Nat.one_ne_zero, Nat.lt_add_one, Nat.zero_lt_succ, startD, List.map_cons, List.map_nil, List.length_cons, List.length_nil, List.cons_append, List.nil_append, Nat.reduceAdd, Nat.reduceSub, Nat.zero_add, List.replicate_succ, List.replicate_zero, W_inSC, List.all_cons, List.all_nil, flatD, List.any_cons, List.any_nil, eqF, Bool.and_true, Bool.or_false, Bool.or_true, Bool.true_or, Bool.false_or, Bool.true_and, Bool.false_and, Option.some.injEq, D.int.injEq, exists_eq_left', exists_eq_left, W_listT, List.set_set, lt_push, len_lt, List.getElem?_append_left, W_fldC, W_setFC, W_clsC, W_methC, W_lenC, W_ixC, W_ixTO, W_isLstC, W_appC, W_listC, W_tupC, W_truC, W_slC, W_slTT, W_addTT, W_addC, W_setIC, W_getIC, W_delC, W_isDctC, W_dgetC, W_dictC, W_dict0, W_eqS, W_neS, W_eqB, W_neB, W_meth, W_make, W_setF, W_augF, W_callK, W_chain, W_chainT, W_del, W_gSub, W_augI, W_get1, W_srcC, WCell_some, WO_some, at0, at1, at2, at3, at4, at5, ix0, ix1, at_nat, memS, lookF, putFD, String.reduceEq, String.reduceBEq, if_true, if_false, Bool.false_eq_true, Option.isNone_none, true_and, and_true, and_self, get_push, isNonD, Bool.not_true, Bool.not_false, cs_from_first, cs_own, cs_others, cs_spare, cs_locks, cs_closed, sl, s1]
  refine take_law hd2 (by decide) fun c2 h3 b0 b1 F3 hd3 => ?_
  simp (maxDischargeDepth := 9) only [W_seq, W_asg, W_set, W_V, WV_some, W_C, W_op, W_cmpT, W_isB, W_un, W_tru, W_andT, W_orT, W_notT, W_andV, W_orV, W_notV, W_ife, W_nil, W_cons, W_tup, W_lst, W_addI, W_subI, W_iaddI, W_negI, W_mulI, W_fdivI, W_modI, W_powI, W_cmpI, W_isB_bl, W_isNB, W_isN, W_isntB, W_isntN, W_eqI, W_neI, W_pass, W_brk, W_cont, W_drop, W_rt, W_rtN, W_ifS, W_gsNil, W_gsCons, W_gTup, W_aug, W_call, W_B, RtN_rt, RtN_nx, W_abs, W_intI, W_intB, W_noPart, W_part, W_sl, W_lm, W_lm0, W_iter, W_range1, W_range2, W_forE, W_revE, W_compE, W_yes, W_lenT, W_truB, W_truI, List.append_nil, List.getElem?_cons_zero, List.getElem?_cons_succ, List.set_cons_zero, List.set_cons_succ, List.getElem?_set_self, List.getElem?_set_ne, lt_set, ne_eq, Nat.reduceEqDiff, not_false_eq_true, Nat.reduceLT, Nat.zero_ne_one, Nat.one_ne_zero, Nat.lt_add_one, Nat.zero_lt_succ, startD, List.map_cons, List.map_nil, List.length_cons, List.length_nil, List.cons_append, List.nil_append, Nat.reduceAdd, Nat.reduceSub, Nat.zero_add, List.replicate_succ, List.replicate_zero, W_inSC, List.all_cons, List.all_nil, flatD, List.any_cons, List.any_nil, eqF, Bool.and_true, Bool.or_false, Bool.or_true, Bool.true_or, Bool.false_or, Bool.true_and, Bool.false_and, Option.some.injEq, D.int.injEq, exists_eq_left', exists_eq_left, W_listT, List.set_set, lt_push, len_lt, List.getElem?_append_left, W_fldC, W_setFC, W_clsC, W_methC, W_lenC, W_ixC, W_ixTO, W_isLstC, W_appC, W_listC, W_tupC, W_truC, W_slC, W_slTT, W_addTT, W_addC, W_setIC, W_getIC, W_delC, W_isDctC, W_dgetC, W_dictC, W_dict0, W_eqS, W_neS, W_eqB, W_neB, W_meth, W_make, W_setF, W_augF, W_callK, W_chain, W_chainT, W_del, W_gSub, W_augI, W_get1, W_srcC, WCell_some, WO_some, at0, at1, at2, at3, at4, at5, ix0, ix1, at_nat, memS, lookF, putFD, String.reduceEq, String.reduceBEq, if_true, if_false, Bool.false_eq_true, Option.isNone_none, true_and, and_true, and_self, get_push, isNonD, Bool.not_true, Bool.not_false, cs_from_first, cs_own, cs_others, cs_spare, cs_locks, cs_closed, sl, s1]
  refine ⟨by decide, ?_⟩
  try simp (maxDischargeDepth := 9) only [W_seq, W_asg, W_set, W_V, WV_some, W_C, W_op, W_cmpT, W_isB, W_un, W_tru, W_andT, W_orT, W_notT, W_andV, W_orV, W_notV, W_ife, W_nil, W_cons, W_tup, W_lst, W_addI, W_subI, W_iaddI, W_negI, W_mulI, W_fdivI, W_modI, W_powI, W_cmpI, W_isB_bl, W_isNB, W_isN, W_isntB, W_isntN, W_eqI, W_neI, W_pass, W_brk, W_cont, W_drop, W_rt, W_rtN, W_ifS, W_gsNil, W_gsCons, W_gTup, W_aug, W_call, W_B, RtN_rt, RtN_nx, W_abs, W_intI, W_intB, W_noPart, W_part, W_sl, W_lm, W_lm0, W_iter, W_range1, W_range2, W_forE, W_revE, W_compE, W_yes, W_lenT, W_truB, W_truI, List.append_nil, List.getElem?_cons_zero, List.getElem?_cons_succ, List.set_cons_zero, List.set_cons_succ, List.getElem?_set_self, List.getElem?_set_ne, lt_set, ne_eq, Nat.reduceEqDiff, not_false_eq_true, Nat.reduceLT, Nat.zero_ne_one, Nat.one_ne_zero, Nat.lt_add_one, Nat.zero_lt_succ, startD, List.map_cons, List.map_nil, List.length_cons, List.length_nil, List.cons_append, List.nil_append, Nat.reduceAdd, Nat.reduceSub, Nat.zero_add, List.replicate_succ, List.replicate_zero, W_inSC, List.all_cons, List.all_nil, flatD, List.any_cons, List.any_nil, eqF, Bool.and_true, Bool.or_false, Bool.or_true, Bool.true_or, Bool.false_or, Bool.true_and, Bool.false_and, Option.some.injEq, D.int.injEq, exists_eq_left', exists_eq_left, W_listT, List.set_set, lt_push, len_lt, List.getElem?_append_left, W_fldC, W_setFC, W_clsC, W_methC, W_lenC, W_ixC, W_ixTO, W_isLstC, W_appC, W_listC, W_tupC, W_truC, W_slC, W_slTT, W_addTT, W_addC, W_setIC, W_getIC, W_delC, W_isDctC, W_dgetC, W_dictC, W_dict0, W_eqS, W_neS, W_eqB, W_neB, W_meth, W_make, W_setF, W_augF, W_callK, W_chain, W_chainT, W_del, W_gSub, W_augI, W_get1, W_srcC, WCell_some, WO_some, at0, at1, at2, at3, at4, at5, ix0, ix1, at_nat, memS, lookF, putFD, String.reduceEq, String.reduceBEq, if_true, if_false, Bool.false_eq_true, Option.isNone_none, true_and, and_true, and_self, get_push, isNonD, Bool.not_true, Bool.not_false, cs_from_first, cs_own, cs_others, cs_spare, cs_locks, cs_closed, sl, s1]
  refine take_law hd3 (by decide) fun r h4 r0 r1 F4 hd4 => ?_
  simp (maxDischargeDepth := 9) only [W_seq, W_asg, W_set, W_V, WV_some, W_C, W_op, W_cmpT, W_isB, W_un, W_tru, W_andT, W_orT, W_notT, W_andV, W_orV, W_notV, W_ife, W_nil, W_cons, W_tup, W_lst, W_addI, W_subI, W_iaddI, W_negI, W_mulI, W_fdivI, W_modI, W_powI, W_cmpI, W_isB_bl, W_isNB, W_isN, W_isntB, W_isntN, W_eqI, W_neI, W_pass, W_brk, W_cont, W_drop, W_rt, W_rtN, W_ifS, W_gsNil, W_gsCons, W_gTup, W_aug, W_call, W_B, RtN_rt, RtN_nx, W_abs, W_intI, W_intB, W_noPart, W_part, W_sl, W_lm, W_lm0, W_iter, W_range1, W_range2, W_forE, W_revE, W_compE, W_yes, W_lenT, W_truB, W_truI, List.append_nil, List.getElem?_cons_zero, List.getElem?_cons_succ, List.set_cons_zero, List.set_cons_succ, List.getElem?_set_self, List.getElem?_set_ne, lt_set, ne_eq, Nat.reduceEqDiff, not_false_eq_true, Nat.reduceLT, Nat.zero_ne_one, Nat.one_ne_zero, Nat.lt_add_one, Nat.zero_lt_succ, startD, List.map_cons, List.map_nil, List.length_cons, List.length_nil, List.cons_append, List.nil_append, Nat.reduceAdd, Nat.reduceSub, Nat.zero_add, List.replicate_succ, List.replicate_zero, W_inSC, List.all_cons, List.all_nil, flatD, List.any_cons, List.any_nil, eqF, Bool.and_true, Bool.or_false, Bool.or_true, Bool.true_or, Bool.false_or, Bool.true_and, Bool.false_and, Option.some.injEq, D.int.injEq, exists_eq_left', exists_eq_left, W_listT, List.set_set, lt_push, len_lt, List.getElem?_append_left, W_fldC, W_setFC, W_clsC, W_methC, W_lenC, W_ixC, W_ixTO, W_isLstC, W_appC, W_listC, W_tupC, W_truC, W_slC, W_slTT, W_addTT, W_addC, W_setIC, W_getIC, W_delC, W_isDctC, W_dgetC, W_dictC, W_dict0, W_eqS, W_neS, W_eqB, W_neB, W_meth, W_make, W_setF, W_augF, W_callK, W_chain, W_chainT, W_del, W_gSub, W_augI, W_get1, W_srcC, WCell_some, WO_some, at0, at1, at2, at3, at4, at5, ix0, ix1, at_nat, memS, lookF, putFD, String.reduceEq, String.reduceBEq, if_true, if_false, Bool.false_eq_true, Option.isNone_none, true_and, and_true, and_self, get_push, isNonD, Bool.not_true, Bool.not_false, cs_from_first, cs_own, cs_others, cs_spare, cs_locks, cs_closed, sl, s1]
  have sz8 : s.locks.length ≤ 8 := by omega
  generalize c1 - 20 = k1
  generalize c2 - 20 = k2
  clear F1 F2 F3 F4 hd1 hd2 hd3 hd a0 a1 b0 b1
  have tail : ∀ (n : Nat) (ms : List Mv) (h5 : Hd), Dk h5 → 2 ≤ n → h5[n]? = some (.lst (ms.map mD)) → ms.length ≤ 9 → W (gSet 5 (.ref n) ((σ.set 3 (some (sD s))).set 4 (some (.tup [.int k1, .int k2])))) h5 fun σ1 h6 => W (xSeq (xAsg (xCall (F__law_moved) [] (xCons (xV 3) (xCons (xV 5) (xCons (xV 4) (xNil))))) (gSet 6)) (xSeq (xAsg (xCall (F__law_turned_state) [] (xCons (xV 3) (xNil))) (gSet 7)) (xSeq (xAsg (xCallK 2 1 (F_next_state) (xCons (xV 7) (xCons (xB tupM (xCons (xV 5) (xNil))) (xNil))) (xCons (xTup (xCons (xOp ixM (xV 4) (xC (.int 1))) (xCons (xOp ixM (xV 4) (xC (.int 0))) (xNil)))) (xNil))) (gSet 8)) (xSeq (xIfS (xNotT (xTru (xCall (F__law_same) [] (xCons (xCallK 2 1 (F_next_state) (xCons (xV 3) (xCons (xB tupM (xCons (xV 5) (xNil))) (xNil))) (xCons (xV 4) (xNil))) (xCons (xV 6) (xNil)))))) (xRet (xC (.bl false))) (xPass)) (xSeq (xIfS (xNotT (xTru (xCall (F__law_same) [] (xCons (xV 8) (xCons (xIf (xCmpT isM (xV 6) (xC .non)) (xC .non) (xCall (F__law_turned_state) [] (xCons (xV 6) (xNil)))) (xNil)))))) (xRet (xC (.bl false))) (xPass)) (xSeq (xAsg (xCall (F__law_drawn_receipts) [] (xCons (xV 1) (xNil))) (gSet 9)) (xSeq (xAsg (xCall (F__law_worth) [] (xCons (xV 3) (xCons (xV 9) (xNil)))) (gSet 10)) (xSeq (xIfS (xNotT (xTru (xCall (F__law_same) [] (xCons (xLst (xCons (xCall (F_worth) [] (xCons (xV 3) (xCons (xB dictM (xCons (xV 9) (xNil))) (xNil)))) (xCons (xCall (F_worth) [] (xCons (xV 7) (xCons (xB dictM (xCons (xV 9) (xNil))) (xNil)))) (xNil)))) (xCons (xLst (xCons (xV 10) (xCons (xTup (xCons (xOp ixM (xV 10) (xC (.int 1))) (xCons (xOp ixM (xV 10) (xC (.int 0))) (xNil)))) (xNil)))) (xNil)))))) (xRet (xC (.bl false))) (xPass)) (xSeq (xAsg (xTup (xCons (xOp subM (xOp ixM (xV 10) (xC (.int 0))) (xOp ixM (xV 3) (xC (.int 2)))) (xCons (xOp subM (xOp ixM (xV 10) (xC (.int 1))) (xOp ixM (xV 3) (xC (.int 3)))) (xNil)))) (gSet 11)) (xSeq (xIfS (xNotT (xTru (xCall (F__law_same) [] (xCons (xLst (xCons (xCall (F_lock_shares) [] (xCons (xOp ixM (xV 3) (xC (.int 4))) (xCons (xB dictM (xCons (xV 9) (xNil))) (xNil)))) (xCons (xCall (F_lock_shares) [] (xCons (xOp ixM (xV 7) (xC (.int 4))) (xCons (xB dictM (xCons (xV 9) (xNil))) (xNil)))) (xNil)))) (xCons (xLst (xCons (xV 11) (xCons (xTup (xCons (xOp ixM (xV 11) (xC (.int 1))) (xCons (xOp ixM (xV 11) (xC (.int 0))) (xNil)))) (xNil)))) (xNil)))))) (xRet (xC (.bl false))) (xPass)) (xIfS (xCmpT eqM (xCall (F_first_proposes) [] (xCons (xOp ixM (xV 3) (xC (.int 1))) (xNil))) (xCall (F_first_proposes) [] (xCons (xOp ixM (xV 7) (xC (.int 1))) (xNil)))) (xRet (xC (.bl false))) (xPass))))))))))) σ1) h6 QX := by
    intro n ms h5 hd5 n2 en ml
    simp (maxDischargeDepth := 9) only [W_seq, W_asg, W_set, W_V, WV_some, W_C, W_op, W_cmpT, W_isB, W_un, W_tru, W_andT, W_orT, W_notT, W_andV, W_orV, W_notV, W_ife, W_nil, W_cons, W_tup, W_lst, W_addI, W_subI, W_iaddI, W_negI, W_mulI, W_fdivI, W_modI, W_powI, W_cmpI, W_isB_bl, W_isNB, W_isN, W_isntB, W_isntN, W_eqI, W_neI, W_pass, W_brk, W_cont, W_drop, W_rt, W_rtN, W_ifS, W_gsNil, W_gsCons, W_gTup, W_aug, W_call, W_B, RtN_rt, RtN_nx, W_abs, W_intI, W_intB, W_noPart, W_part, W_sl, W_lm, W_lm0, W_iter, W_range1, W_range2, W_forE, W_revE, W_compE, W_yes, W_lenT, W_truB, W_truI, List.append_nil, List.getElem?_cons_zero, List.getElem?_cons_succ, List.set_cons_zero, List.set_cons_succ, List.getElem?_set_self, List.getElem?_set_ne, lt_set, ne_eq, Nat.reduceEqDiff, not_false_eq_true, Nat.reduceLT, Nat.zero_ne_one, Nat.one_ne_zero, Nat.lt_add_one, Nat.zero_lt_succ, startD, List.map_cons, List.map_nil, List.length_cons, List.length_nil, List.cons_append, List.nil_append, Nat.reduceAdd, Nat.reduceSub, Nat.zero_add, List.replicate_succ, List.replicate_zero, W_inSC, List.all_cons, List.all_nil, flatD, List.any_cons, List.any_nil, eqF, Bool.and_true, Bool.or_false, Bool.or_true, Bool.true_or, Bool.false_or, Bool.true_and, Bool.false_and, Option.some.injEq, D.int.injEq, exists_eq_left', exists_eq_left, W_listT, List.set_set, lt_push, len_lt, List.getElem?_append_left, W_fldC, W_setFC, W_clsC, W_methC, W_lenC, W_ixC, W_ixTO, W_isLstC, W_appC, W_listC, W_tupC, W_truC, W_slC, W_slTT, W_addTT, W_addC, W_setIC, W_getIC, W_delC, W_isDctC, W_dgetC, W_dictC, W_dict0, W_eqS, W_neS, W_eqB, W_neB, W_meth, W_make, W_setF, W_augF, W_callK, W_chain, W_chainT, W_del, W_gSub, W_augI, W_get1, W_srcC, WCell_some, WO_some, at0, at1, at2, at3, at4, at5, ix0, ix1, at_nat, memS, lookF, putFD, String.reduceEq, String.reduceBEq, if_true, if_false, Bool.false_eq_true, Option.isNone_none, true_and, and_true, and_self, get_push, isNonD, Bool.not_true, Bool.not_false, cs_from_first, cs_own, cs_others, cs_spare, cs_locks, cs_closed, sl, s1]
    refine moved_law en (by omega) (by have := hd5.lt; omega) sz8 fun h6 F6 => ?_
    have en := F6.keep en (by simp) (by omega)
    have hd6 := F6.dk hd5
    simp (maxDischargeDepth := 9) only [W_seq, W_asg, W_set, W_V, WV_some, W_C, W_op, W_cmpT, W_isB, W_un, W_tru, W_andT, W_orT, W_notT, W_andV, W_orV, W_notV, W_ife, W_nil, W_cons, W_tup, W_lst, W_addI, W_subI, W_iaddI, W_negI, W_mulI, W_fdivI, W_modI, W_powI, W_cmpI, W_isB_bl, W_isNB, W_isN, W_isntB, W_isntN, W_eqI, W_neI, W_pass, W_brk, W_cont, W_drop, W_rt, W_rtN, W_ifS, W_gsNil, W_gsCons, W_gTup, W_aug, W_call, W_B, RtN_rt, RtN_nx, W_abs, W_intI, W_intB, W_noPart, W_part, W_sl, W_lm, W_lm0, W_iter, W_range1, W_range2, W_forE, W_revE, W_compE, W_yes, W_lenT, W_truB, W_truI, List.append_nil, List.getElem?_cons_zero, List.getElem?_cons_succ, List.set_cons_zero, List.set_cons_succ, List.getElem?_set_self, List.getElem?_set_ne, lt_set, ne_eq, Nat.reduceEqDiff, not_false_eq_true, Nat.reduceLT, Nat.zero_ne_one, Nat.one_ne_zero, Nat.lt_add_one, Nat.zero_lt_succ, startD, List.map_cons, List.map_nil, List.length_cons, List.length_nil, List.cons_append, List.nil_append, Nat.reduceAdd, Nat.reduceSub, Nat.zero_add, List.replicate_succ, List.replicate_zero, W_inSC, List.all_cons, List.all_nil, flatD, List.any_cons, List.any_nil, eqF, Bool.and_true, Bool.or_false, Bool.or_true, Bool.true_or, Bool.false_or, Bool.true_and, Bool.false_and, Option.some.injEq, D.int.injEq, exists_eq_left', exists_eq_left, W_listT, List.set_set, lt_push, len_lt, List.getElem?_append_left, W_fldC, W_setFC, W_clsC, W_methC, W_lenC, W_ixC, W_ixTO, W_isLstC, W_appC, W_listC, W_tupC, W_truC, W_slC, W_slTT, W_addTT, W_addC, W_setIC, W_getIC, W_delC, W_isDctC, W_dgetC, W_dictC, W_dict0, W_eqS, W_neS, W_eqB, W_neB, W_meth, W_make, W_setF, W_augF, W_callK, W_chain, W_chainT, W_del, W_gSub, W_augI, W_get1, W_srcC, WCell_some, WO_some, at0, at1, at2, at3, at4, at5, ix0, ix1, at_nat, memS, lookF, putFD, String.reduceEq, String.reduceBEq, if_true, if_false, Bool.false_eq_true, Option.isNone_none, true_and, and_true, and_self, get_push, isNonD, Bool.not_true, Bool.not_false, cs_from_first, cs_own, cs_others, cs_spare, cs_locks, cs_closed, sl, s1]
    refine turned_law (by have := hd6.lt; omega) sz8 fun h7 F7 => ?_
    have en := F7.keep en (by simp) (by omega)
    have hd7 := F7.dk hd6
    have tz8 : (turn s).locks.length ≤ 8 := by simpa [turn] using sz8
    simp (maxDischargeDepth := 9) only [W_seq, W_asg, W_set, W_V, WV_some, W_C, W_op, W_cmpT, W_isB, W_un, W_tru, W_andT, W_orT, W_notT, W_andV, W_orV, W_notV, W_ife, W_nil, W_cons, W_tup, W_lst, W_addI, W_subI, W_iaddI, W_negI, W_mulI, W_fdivI, W_modI, W_powI, W_cmpI, W_isB_bl, W_isNB, W_isN, W_isntB, W_isntN, W_eqI, W_neI, W_pass, W_brk, W_cont, W_drop, W_rt, W_rtN, W_ifS, W_gsNil, W_gsCons, W_gTup, W_aug, W_call, W_B, RtN_rt, RtN_nx, W_abs, W_intI, W_intB, W_noPart, W_part, W_sl, W_lm, W_lm0, W_iter, W_range1, W_range2, W_forE, W_revE, W_compE, W_yes, W_lenT, W_truB, W_truI, List.append_nil, List.getElem?_cons_zero, List.getElem?_cons_succ, List.set_cons_zero, List.set_cons_succ, List.getElem?_set_self, List.getElem?_set_ne, lt_set, ne_eq, Nat.reduceEqDiff, not_false_eq_true, Nat.reduceLT, Nat.zero_ne_one, Nat.one_ne_zero, Nat.lt_add_one, Nat.zero_lt_succ, startD, List.map_cons, List.map_nil, List.length_cons, List.length_nil, List.cons_append, List.nil_append, Nat.reduceAdd, Nat.reduceSub, Nat.zero_add, List.replicate_succ, List.replicate_zero, W_inSC, List.all_cons, List.all_nil, flatD, List.any_cons, List.any_nil, eqF, Bool.and_true, Bool.or_false, Bool.or_true, Bool.true_or, Bool.false_or, Bool.true_and, Bool.false_and, Option.some.injEq, D.int.injEq, exists_eq_left', exists_eq_left, W_listT, List.set_set, lt_push, len_lt, List.getElem?_append_left, W_fldC, W_setFC, W_clsC, W_methC, W_lenC, W_ixC, W_ixTO, W_isLstC, W_appC, W_listC, W_tupC, W_truC, W_slC, W_slTT, W_addTT, W_addC, W_setIC, W_getIC, W_delC, W_isDctC, W_dgetC, W_dictC, W_dict0, W_eqS, W_neS, W_eqB, W_neB, W_meth, W_make, W_setF, W_augF, W_callK, W_chain, W_chainT, W_del, W_gSub, W_augI, W_get1, W_srcC, WCell_some, WO_some, at0, at1, at2, at3, at4, at5, ix0, ix1, at_nat, memS, lookF, putFD, String.reduceEq, String.reduceBEq, if_true, if_false, Bool.false_eq_true, Option.isNone_none, true_and, and_true, and_self, get_push, isNonD, Bool.not_true, Bool.not_false, cs_from_first, cs_own, cs_others, cs_spare, cs_locks, cs_closed, sl, s1, en]
    refine ⟨by decide, ?_⟩
    try simp (maxDischargeDepth := 9) only [W_seq, W_asg, W_set, W_V, WV_some, W_C, W_op, W_cmpT, W_isB, W_un, W_tru, W_andT, W_orT, W_notT, W_andV, W_orV, W_notV, W_ife, W_nil, W_cons, W_tup, W_lst, W_addI, W_subI, W_iaddI, W_negI, W_mulI, W_fdivI, W_modI, W_powI, W_cmpI, W_isB_bl, W_isNB, W_isN, W_isntB, W_isntN, W_eqI, W_neI, W_pass, W_brk, W_cont, W_drop, W_rt, W_rtN, W_ifS, W_gsNil, W_gsCons, W_gTup, W_aug, W_call, W_B, RtN_rt, RtN_nx, W_abs, W_intI, W_intB, W_noPart, W_part, W_sl, W_lm, W_lm0, W_iter, W_range1, W_range2, W_forE, W_revE, W_compE, W_yes, W_lenT, W_truB, W_truI, List.append_nil, List.getElem?_cons_zero, List.getElem?_cons_succ, List.set_cons_zero, List.set_cons_succ, List.getElem?_set_self, List.getElem?_set_ne, lt_set, ne_eq, Nat.reduceEqDiff, not_false_eq_true, Nat.reduceLT, Nat.zero_ne_one, Nat.one_ne_zero, Nat.lt_add_one, Nat.zero_lt_succ, startD, List.map_cons, List.map_nil, List.length_cons, List.length_nil, List.cons_append, List.nil_append, Nat.reduceAdd, Nat.reduceSub, Nat.zero_add, List.replicate_succ, List.replicate_zero, W_inSC, List.all_cons, List.all_nil, flatD, List.any_cons, List.any_nil, eqF, Bool.and_true, Bool.or_false, Bool.or_true, Bool.true_or, Bool.false_or, Bool.true_and, Bool.false_and, Option.some.injEq, D.int.injEq, exists_eq_left', exists_eq_left, W_listT, List.set_set, lt_push, len_lt, List.getElem?_append_left, W_fldC, W_setFC, W_clsC, W_methC, W_lenC, W_ixC, W_ixTO, W_isLstC, W_appC, W_listC, W_tupC, W_truC, W_slC, W_slTT, W_addTT, W_addC, W_setIC, W_getIC, W_delC, W_isDctC, W_dgetC, W_dictC, W_dict0, W_eqS, W_neS, W_eqB, W_neB, W_meth, W_make, W_setF, W_augF, W_callK, W_chain, W_chainT, W_del, W_gSub, W_augI, W_get1, W_srcC, WCell_some, WO_some, at0, at1, at2, at3, at4, at5, ix0, ix1, at_nat, memS, lookF, putFD, String.reduceEq, String.reduceBEq, if_true, if_false, Bool.false_eq_true, Option.isNone_none, true_and, and_true, and_self, get_push, isNonD, Bool.not_true, Bool.not_false, cs_from_first, cs_own, cs_others, cs_spare, cs_locks, cs_closed, sl, s1, en]
    refine next_law (by have := hd7.lt; omega) tz8 fun h8 F8 => ?_
    have en := F8.keep en (by simp) (by omega)
    have hd8 := F8.dk hd7
    rw [nx_turn]
    obtain ⟨due, edue⟩ : ∃ d, nx s ms k1 k2 = d := ⟨_, rfl⟩
    rw [edue]
    have osz : ∀ t, due = some t → t.locks.length ≤ 8 := fun t e => nx_sz (edue.trans e) sz8
    simp (maxDischargeDepth := 9) only [W_seq, W_asg, W_set, W_V, WV_some, W_C, W_op, W_cmpT, W_isB, W_un, W_tru, W_andT, W_orT, W_notT, W_andV, W_orV, W_notV, W_ife, W_nil, W_cons, W_tup, W_lst, W_addI, W_subI, W_iaddI, W_negI, W_mulI, W_fdivI, W_modI, W_powI, W_cmpI, W_isB_bl, W_isNB, W_isN, W_isntB, W_isntN, W_eqI, W_neI, W_pass, W_brk, W_cont, W_drop, W_rt, W_rtN, W_ifS, W_gsNil, W_gsCons, W_gTup, W_aug, W_call, W_B, RtN_rt, RtN_nx, W_abs, W_intI, W_intB, W_noPart, W_part, W_sl, W_lm, W_lm0, W_iter, W_range1, W_range2, W_forE, W_revE, W_compE, W_yes, W_lenT, W_truB, W_truI, List.append_nil, List.getElem?_cons_zero, List.getElem?_cons_succ, List.set_cons_zero, List.set_cons_succ, List.getElem?_set_self, List.getElem?_set_ne, lt_set, ne_eq, Nat.reduceEqDiff, not_false_eq_true, Nat.reduceLT, Nat.zero_ne_one, Nat.one_ne_zero, Nat.lt_add_one, Nat.zero_lt_succ, startD, List.map_cons, List.map_nil, List.length_cons, List.length_nil, List.cons_append, List.nil_append, Nat.reduceAdd, Nat.reduceSub, Nat.zero_add, List.replicate_succ, List.replicate_zero, W_inSC, List.all_cons, List.all_nil, flatD, List.any_cons, List.any_nil, eqF, Bool.and_true, Bool.or_false, Bool.or_true, Bool.true_or, Bool.false_or, Bool.true_and, Bool.false_and, Option.some.injEq, D.int.injEq, exists_eq_left', exists_eq_left, W_listT, List.set_set, lt_push, len_lt, List.getElem?_append_left, W_fldC, W_setFC, W_clsC, W_methC, W_lenC, W_ixC, W_ixTO, W_isLstC, W_appC, W_listC, W_tupC, W_truC, W_slC, W_slTT, W_addTT, W_addC, W_setIC, W_getIC, W_delC, W_isDctC, W_dgetC, W_dictC, W_dict0, W_eqS, W_neS, W_eqB, W_neB, W_meth, W_make, W_setF, W_augF, W_callK, W_chain, W_chainT, W_del, W_gSub, W_augI, W_get1, W_srcC, WCell_some, WO_some, at0, at1, at2, at3, at4, at5, ix0, ix1, at_nat, memS, lookF, putFD, String.reduceEq, String.reduceBEq, if_true, if_false, Bool.false_eq_true, Option.isNone_none, true_and, and_true, and_self, get_push, isNonD, Bool.not_true, Bool.not_false, cs_from_first, cs_own, cs_others, cs_spare, cs_locks, cs_closed, sl, s1, en]
    refine next_law (by have := hd8.lt; omega) sz8 fun h9 F9 => ?_
    rw [edue]
    have hd9 := F9.dk hd8
    simp (maxDischargeDepth := 9) only [W_seq, W_asg, W_set, W_V, WV_some, W_C, W_op, W_cmpT, W_isB, W_un, W_tru, W_andT, W_orT, W_notT, W_andV, W_orV, W_notV, W_ife, W_nil, W_cons, W_tup, W_lst, W_addI, W_subI, W_iaddI, W_negI, W_mulI, W_fdivI, W_modI, W_powI, W_cmpI, W_isB_bl, W_isNB, W_isN, W_isntB, W_isntN, W_eqI, W_neI, W_pass, W_brk, W_cont, W_drop, W_rt, W_rtN, W_ifS, W_gsNil, W_gsCons, W_gTup, W_aug, W_call, W_B, RtN_rt, RtN_nx, W_abs, W_intI, W_intB, W_noPart, W_part, W_sl, W_lm, W_lm0, W_iter, W_range1, W_range2, W_forE, W_revE, W_compE, W_yes, W_lenT, W_truB, W_truI, List.append_nil, List.getElem?_cons_zero, List.getElem?_cons_succ, List.set_cons_zero, List.set_cons_succ, List.getElem?_set_self, List.getElem?_set_ne, lt_set, ne_eq, Nat.reduceEqDiff, not_false_eq_true, Nat.reduceLT, Nat.zero_ne_one, Nat.one_ne_zero, Nat.lt_add_one, Nat.zero_lt_succ, startD, List.map_cons, List.map_nil, List.length_cons, List.length_nil, List.cons_append, List.nil_append, Nat.reduceAdd, Nat.reduceSub, Nat.zero_add, List.replicate_succ, List.replicate_zero, W_inSC, List.all_cons, List.all_nil, flatD, List.any_cons, List.any_nil, eqF, Bool.and_true, Bool.or_false, Bool.or_true, Bool.true_or, Bool.false_or, Bool.true_and, Bool.false_and, Option.some.injEq, D.int.injEq, exists_eq_left', exists_eq_left, W_listT, List.set_set, lt_push, len_lt, List.getElem?_append_left, W_fldC, W_setFC, W_clsC, W_methC, W_lenC, W_ixC, W_ixTO, W_isLstC, W_appC, W_listC, W_tupC, W_truC, W_slC, W_slTT, W_addTT, W_addC, W_setIC, W_getIC, W_delC, W_isDctC, W_dgetC, W_dictC, W_dict0, W_eqS, W_neS, W_eqB, W_neB, W_meth, W_make, W_setF, W_augF, W_callK, W_chain, W_chainT, W_del, W_gSub, W_augI, W_get1, W_srcC, WCell_some, WO_some, at0, at1, at2, at3, at4, at5, ix0, ix1, at_nat, memS, lookF, putFD, String.reduceEq, String.reduceBEq, if_true, if_false, Bool.false_eq_true, Option.isNone_none, true_and, and_true, and_self, get_push, isNonD, Bool.not_true, Bool.not_false, cs_from_first, cs_own, cs_others, cs_spare, cs_locks, cs_closed, sl, s1]
    refine same_law (w := 12) (d := 4) (rp_o (d := 0) fun t e => by have := osz t e; omega) (rp_o (d := 0) fun t e => by have := osz t e; omega) hd9.lt fun h10 F10 => ?_
    have hd10 := F10.dk hd9
    have rest : ∀ (σ : Ev) (g : Hd), Dk g → σ.length = 13 → σ[1]? = some (some (.ref 1)) → σ[3]? = some (some (sD s)) → σ[7]? = some (some (sD (turn s))) → W (F__law_drawn_receipts [D.ref 1]) g fun d g1 => W (gSet 9 d σ) g1 fun σ1 g2 => W (xSeq (xAsg (xCall (F__law_worth) [] (xCons (xV 3) (xCons (xV 9) (xNil)))) (gSet 10)) (xSeq (xIfS (xNotT (xTru (xCall (F__law_same) [] (xCons (xLst (xCons (xCall (F_worth) [] (xCons (xV 3) (xCons (xB dictM (xCons (xV 9) (xNil))) (xNil)))) (xCons (xCall (F_worth) [] (xCons (xV 7) (xCons (xB dictM (xCons (xV 9) (xNil))) (xNil)))) (xNil)))) (xCons (xLst (xCons (xV 10) (xCons (xTup (xCons (xOp ixM (xV 10) (xC (.int 1))) (xCons (xOp ixM (xV 10) (xC (.int 0))) (xNil)))) (xNil)))) (xNil)))))) (xRet (xC (.bl false))) (xPass)) (xSeq (xAsg (xTup (xCons (xOp subM (xOp ixM (xV 10) (xC (.int 0))) (xOp ixM (xV 3) (xC (.int 2)))) (xCons (xOp subM (xOp ixM (xV 10) (xC (.int 1))) (xOp ixM (xV 3) (xC (.int 3)))) (xNil)))) (gSet 11)) (xSeq (xIfS (xNotT (xTru (xCall (F__law_same) [] (xCons (xLst (xCons (xCall (F_lock_shares) [] (xCons (xOp ixM (xV 3) (xC (.int 4))) (xCons (xB dictM (xCons (xV 9) (xNil))) (xNil)))) (xCons (xCall (F_lock_shares) [] (xCons (xOp ixM (xV 7) (xC (.int 4))) (xCons (xB dictM (xCons (xV 9) (xNil))) (xNil)))) (xNil)))) (xCons (xLst (xCons (xV 11) (xCons (xTup (xCons (xOp ixM (xV 11) (xC (.int 1))) (xCons (xOp ixM (xV 11) (xC (.int 0))) (xNil)))) (xNil)))) (xNil)))))) (xRet (xC (.bl false))) (xPass)) (xIfS (xCmpT eqM (xCall (F_first_proposes) [] (xCons (xOp ixM (xV 3) (xC (.int 1))) (xNil))) (xCall (F_first_proposes) [] (xCons (xOp ixM (xV 7) (xC (.int 1))) (xNil)))) (xRet (xC (.bl false))) (xPass))))) σ1) g2 QX := by
      intro σ g hdg sl s1 s3 s7
      refine receipts_law hdg fun rs R g1 F1 hd1 R2 eR => ?_
      have R1 : R ≠ 1 := by omega
      simp (maxDischargeDepth := 9) only [W_seq, W_asg, W_set, W_V, WV_some, W_C, W_op, W_cmpT, W_isB, W_un, W_tru, W_andT, W_orT, W_notT, W_andV, W_orV, W_notV, W_ife, W_nil, W_cons, W_tup, W_lst, W_addI, W_subI, W_iaddI, W_negI, W_mulI, W_fdivI, W_modI, W_powI, W_cmpI, W_isB_bl, W_isNB, W_isN, W_isntB, W_isntN, W_eqI, W_neI, W_pass, W_brk, W_cont, W_drop, W_rt, W_rtN, W_ifS, W_gsNil, W_gsCons, W_gTup, W_aug, W_call, W_B, RtN_rt, RtN_nx, W_abs, W_intI, W_intB, W_noPart, W_part, W_sl, W_lm, W_lm0, W_iter, W_range1, W_range2, W_forE, W_revE, W_compE, W_yes, W_lenT, W_truB, W_truI, List.append_nil, List.getElem?_cons_zero, List.getElem?_cons_succ, List.set_cons_zero, List.set_cons_succ, List.getElem?_set_self, List.getElem?_set_ne, lt_set, ne_eq, Nat.reduceEqDiff, not_false_eq_true, Nat.reduceLT, Nat.zero_ne_one, Nat.one_ne_zero, Nat.lt_add_one, Nat.zero_lt_succ, startD, List.map_cons, List.map_nil, List.length_cons, List.length_nil, List.cons_append, List.nil_append, Nat.reduceAdd, Nat.reduceSub, Nat.zero_add, List.replicate_succ, List.replicate_zero, W_inSC, List.all_cons, List.all_nil, flatD, List.any_cons, List.any_nil, eqF, Bool.and_true, Bool.or_false, Bool.or_true, Bool.true_or, Bool.false_or, Bool.true_and, Bool.false_and, Option.some.injEq, D.int.injEq, exists_eq_left', exists_eq_left, W_listT, List.set_set, lt_push, len_lt, List.getElem?_append_left, W_fldC, W_setFC, W_clsC, W_methC, W_lenC, W_ixC, W_ixTO, W_isLstC, W_appC, W_listC, W_tupC, W_truC, W_slC, W_slTT, W_addTT, W_addC, W_setIC, W_getIC, W_delC, W_isDctC, W_dgetC, W_dictC, W_dict0, W_eqS, W_neS, W_eqB, W_neB, W_meth, W_make, W_setF, W_augF, W_callK, W_chain, W_chainT, W_del, W_gSub, W_augI, W_get1, W_srcC, WCell_some, WO_some, at0, at1, at2, at3, at4, at5, ix0, ix1, at_nat, memS, lookF, putFD, String.reduceEq, String.reduceBEq, if_true, if_false, Bool.false_eq_true, Option.isNone_none, true_and, and_true, and_self, get_push, isNonD, Bool.not_true, Bool.not_false, cs_from_first, cs_own, cs_others, cs_spare, cs_locks, cs_closed, sl, s1, s3, s7]
      refine lworth_law eR R1 (by have := hd1.lt; omega) fun g2 F2 => ?_
      have eR := F2.keep eR (by simp) R1
      have hd2 := F2.dk hd1
      have k2 := hd2.lt
      simp (maxDischargeDepth := 9) only [W_seq, W_asg, W_set, W_V, WV_some, W_C, W_op, W_cmpT, W_isB, W_un, W_tru, W_andT, W_orT, W_notT, W_andV, W_orV, W_notV, W_ife, W_nil, W_cons, W_tup, W_lst, W_addI, W_subI, W_iaddI, W_negI, W_mulI, W_fdivI, W_modI, W_powI, W_cmpI, W_isB_bl, W_isNB, W_isN, W_isntB, W_isntN, W_eqI, W_neI, W_pass, W_brk, W_cont, W_drop, W_rt, W_rtN, W_ifS, W_gsNil, W_gsCons, W_gTup, W_aug, W_call, W_B, RtN_rt, RtN_nx, W_abs, W_intI, W_intB, W_noPart, W_part, W_sl, W_lm, W_lm0, W_iter, W_range1, W_range2, W_forE, W_revE, W_compE, W_yes, W_lenT, W_truB, W_truI, List.append_nil, List.getElem?_cons_zero, List.getElem?_cons_succ, List.set_cons_zero, List.set_cons_succ, List.getElem?_set_self, List.getElem?_set_ne, lt_set, ne_eq, Nat.reduceEqDiff, not_false_eq_true, Nat.reduceLT, Nat.zero_ne_one, Nat.one_ne_zero, Nat.lt_add_one, Nat.zero_lt_succ, startD, List.map_cons, List.map_nil, List.length_cons, List.length_nil, List.cons_append, List.nil_append, Nat.reduceAdd, Nat.reduceSub, Nat.zero_add, List.replicate_succ, List.replicate_zero, W_inSC, List.all_cons, List.all_nil, flatD, List.any_cons, List.any_nil, eqF, Bool.and_true, Bool.or_false, Bool.or_true, Bool.true_or, Bool.false_or, Bool.true_and, Bool.false_and, Option.some.injEq, D.int.injEq, exists_eq_left', exists_eq_left, W_listT, List.set_set, lt_push, len_lt, List.getElem?_append_left, W_fldC, W_setFC, W_clsC, W_methC, W_lenC, W_ixC, W_ixTO, W_isLstC, W_appC, W_listC, W_tupC, W_truC, W_slC, W_slTT, W_addTT, W_addC, W_setIC, W_getIC, W_delC, W_isDctC, W_dgetC, W_dictC, W_dict0, W_eqS, W_neS, W_eqB, W_neB, W_meth, W_make, W_setF, W_augF, W_callK, W_chain, W_chainT, W_del, W_gSub, W_augI, W_get1, W_srcC, WCell_some, WO_some, at0, at1, at2, at3, at4, at5, ix0, ix1, at_nat, memS, lookF, putFD, String.reduceEq, String.reduceBEq, if_true, if_false, Bool.false_eq_true, Option.isNone_none, true_and, and_true, and_self, get_push, isNonD, Bool.not_true, Bool.not_false, cs_from_first, cs_own, cs_others, cs_spare, cs_locks, cs_closed, sl, s1, s3, s7, eR]
      refine worth_law get_push (by omega) ?_
      have lR := get_lt eR
      simp (maxDischargeDepth := 9) only [W_seq, W_asg, W_set, W_V, WV_some, W_C, W_op, W_cmpT, W_isB, W_un, W_tru, W_andT, W_orT, W_notT, W_andV, W_orV, W_notV, W_ife, W_nil, W_cons, W_tup, W_lst, W_addI, W_subI, W_iaddI, W_negI, W_mulI, W_fdivI, W_modI, W_powI, W_cmpI, W_isB_bl, W_isNB, W_isN, W_isntB, W_isntN, W_eqI, W_neI, W_pass, W_brk, W_cont, W_drop, W_rt, W_rtN, W_ifS, W_gsNil, W_gsCons, W_gTup, W_aug, W_call, W_B, RtN_rt, RtN_nx, W_abs, W_intI, W_intB, W_noPart, W_part, W_sl, W_lm, W_lm0, W_iter, W_range1, W_range2, W_forE, W_revE, W_compE, W_yes, W_lenT, W_truB, W_truI, List.append_nil, List.getElem?_cons_zero, List.getElem?_cons_succ, List.set_cons_zero, List.set_cons_succ, List.getElem?_set_self, List.getElem?_set_ne, lt_set, ne_eq, Nat.reduceEqDiff, not_false_eq_true, Nat.reduceLT, Nat.zero_ne_one, Nat.one_ne_zero, Nat.lt_add_one, Nat.zero_lt_succ, startD, List.map_cons, List.map_nil, List.length_cons, List.length_nil, List.cons_append, List.nil_append, Nat.reduceAdd, Nat.reduceSub, Nat.zero_add, List.replicate_succ, List.replicate_zero, W_inSC, List.all_cons, List.all_nil, flatD, List.any_cons, List.any_nil, eqF, Bool.and_true, Bool.or_false, Bool.or_true, Bool.true_or, Bool.false_or, Bool.true_and, Bool.false_and, Option.some.injEq, D.int.injEq, exists_eq_left', exists_eq_left, W_listT, List.set_set, lt_push, len_lt, List.getElem?_append_left, W_fldC, W_setFC, W_clsC, W_methC, W_lenC, W_ixC, W_ixTO, W_isLstC, W_appC, W_listC, W_tupC, W_truC, W_slC, W_slTT, W_addTT, W_addC, W_setIC, W_getIC, W_delC, W_isDctC, W_dgetC, W_dictC, W_dict0, W_eqS, W_neS, W_eqB, W_neB, W_meth, W_make, W_setF, W_augF, W_callK, W_chain, W_chainT, W_del, W_gSub, W_augI, W_get1, W_srcC, WCell_some, WO_some, at0, at1, at2, at3, at4, at5, ix0, ix1, at_nat, memS, lookF, putFD, String.reduceEq, String.reduceBEq, if_true, if_false, Bool.false_eq_true, Option.isNone_none, true_and, and_true, and_self, get_push, isNonD, Bool.not_true, Bool.not_false, cs_from_first, cs_own, cs_others, cs_spare, cs_locks, cs_closed, sl, s1, s3, s7, eR, lR]
      refine worth_law get_push (by rw [List.length_append]; omega) ?_
      simp (maxDischargeDepth := 9) only [W_seq, W_asg, W_set, W_V, WV_some, W_C, W_op, W_cmpT, W_isB, W_un, W_tru, W_andT, W_orT, W_notT, W_andV, W_orV, W_notV, W_ife, W_nil, W_cons, W_tup, W_lst, W_addI, W_subI, W_iaddI, W_negI, W_mulI, W_fdivI, W_modI, W_powI, W_cmpI, W_isB_bl, W_isNB, W_isN, W_isntB, W_isntN, W_eqI, W_neI, W_pass, W_brk, W_cont, W_drop, W_rt, W_rtN, W_ifS, W_gsNil, W_gsCons, W_gTup, W_aug, W_call, W_B, RtN_rt, RtN_nx, W_abs, W_intI, W_intB, W_noPart, W_part, W_sl, W_lm, W_lm0, W_iter, W_range1, W_range2, W_forE, W_revE, W_compE, W_yes, W_lenT, W_truB, W_truI, List.append_nil, List.getElem?_cons_zero, List.getElem?_cons_succ, List.set_cons_zero, List.set_cons_succ, List.getElem?_set_self, List.getElem?_set_ne, lt_set, ne_eq, Nat.reduceEqDiff, not_false_eq_true, Nat.reduceLT, Nat.zero_ne_one, Nat.one_ne_zero, Nat.lt_add_one, Nat.zero_lt_succ, startD, List.map_cons, List.map_nil, List.length_cons, List.length_nil, List.cons_append, List.nil_append, Nat.reduceAdd, Nat.reduceSub, Nat.zero_add, List.replicate_succ, List.replicate_zero, W_inSC, List.all_cons, List.all_nil, flatD, List.any_cons, List.any_nil, eqF, Bool.and_true, Bool.or_false, Bool.or_true, Bool.true_or, Bool.false_or, Bool.true_and, Bool.false_and, Option.some.injEq, D.int.injEq, exists_eq_left', exists_eq_left, W_listT, List.set_set, lt_push, len_lt, List.getElem?_append_left, W_fldC, W_setFC, W_clsC, W_methC, W_lenC, W_ixC, W_ixTO, W_isLstC, W_appC, W_listC, W_tupC, W_truC, W_slC, W_slTT, W_addTT, W_addC, W_setIC, W_getIC, W_delC, W_isDctC, W_dgetC, W_dictC, W_dict0, W_eqS, W_neS, W_eqB, W_neB, W_meth, W_make, W_setF, W_augF, W_callK, W_chain, W_chainT, W_del, W_gSub, W_augI, W_get1, W_srcC, WCell_some, WO_some, at0, at1, at2, at3, at4, at5, ix0, ix1, at_nat, memS, lookF, putFD, String.reduceEq, String.reduceBEq, if_true, if_false, Bool.false_eq_true, Option.isNone_none, true_and, and_true, and_self, get_push, isNonD, Bool.not_true, Bool.not_false, cs_from_first, cs_own, cs_others, cs_spare, cs_locks, cs_closed, sl, s1, s3, s7, eR, lR]
      refine ⟨by decide, by decide, by decide, ?_⟩
      have tw1 : (turn s).a + fA rs (turn s).locks = s.b + sB rs s.locks := by show s.b + fA rs (s.locks.map flip) = _; rw [fA_flip]
      have tw2 : (turn s).b + sB rs (turn s).locks = s.a + fA rs s.locks := by show s.a + sB rs (s.locks.map flip) = _; rw [sB_flip]
      rw [tw1, tw2]
      refine same_law (w := 12) (d := 3) (rp_pairs (by simp <;> omega) (get_pushL get_push)) (rp_pairs (by simp <;> omega) get_push) (by simp <;> omega) fun g3 F3 => ?_
      have eR := F3.keep (get_pushL (get_pushL (get_pushL (get_pushL eR)))) (by simp) R1
      have hd3 := F3.dk (Fr.push (S := []).dk (Fr.push (S := []).dk (Fr.push (S := []).dk (Fr.push (S := []).dk hd2))))
      have lR := get_lt eR
      have k3 := hd3.lt
      simp (maxDischargeDepth := 9) only [W_seq, W_asg, W_set, W_V, WV_some, W_C, W_op, W_cmpT, W_isB, W_un, W_tru, W_andT, W_orT, W_notT, W_andV, W_orV, W_notV, W_ife, W_nil, W_cons, W_tup, W_lst, W_addI, W_subI, W_iaddI, W_negI, W_mulI, W_fdivI, W_modI, W_powI, W_cmpI, W_isB_bl, W_isNB, W_isN, W_isntB, W_isntN, W_eqI, W_neI, W_pass, W_brk, W_cont, W_drop, W_rt, W_rtN, W_ifS, W_gsNil, W_gsCons, W_gTup, W_aug, W_call, W_B, RtN_rt, RtN_nx, W_abs, W_intI, W_intB, W_noPart, W_part, W_sl, W_lm, W_lm0, W_iter, W_range1, W_range2, W_forE, W_revE, W_compE, W_yes, W_lenT, W_truB, W_truI, List.append_nil, List.getElem?_cons_zero, List.getElem?_cons_succ, List.set_cons_zero, List.set_cons_succ, List.getElem?_set_self, List.getElem?_set_ne, lt_set, ne_eq, Nat.reduceEqDiff, not_false_eq_true, Nat.reduceLT, Nat.zero_ne_one, Nat.one_ne_zero, Nat.lt_add_one, Nat.zero_lt_succ, startD, List.map_cons, List.map_nil, List.length_cons, List.length_nil, List.cons_append, List.nil_append, Nat.reduceAdd, Nat.reduceSub, Nat.zero_add, List.replicate_succ, List.replicate_zero, W_inSC, List.all_cons, List.all_nil, flatD, List.any_cons, List.any_nil, eqF, Bool.and_true, Bool.or_false, Bool.or_true, Bool.true_or, Bool.false_or, Bool.true_and, Bool.false_and, Option.some.injEq, D.int.injEq, exists_eq_left', exists_eq_left, W_listT, List.set_set, lt_push, len_lt, List.getElem?_append_left, W_fldC, W_setFC, W_clsC, W_methC, W_lenC, W_ixC, W_ixTO, W_isLstC, W_appC, W_listC, W_tupC, W_truC, W_slC, W_slTT, W_addTT, W_addC, W_setIC, W_getIC, W_delC, W_isDctC, W_dgetC, W_dictC, W_dict0, W_eqS, W_neS, W_eqB, W_neB, W_meth, W_make, W_setF, W_augF, W_callK, W_chain, W_chainT, W_del, W_gSub, W_augI, W_get1, W_srcC, WCell_some, WO_some, at0, at1, at2, at3, at4, at5, ix0, ix1, at_nat, memS, lookF, putFD, String.reduceEq, String.reduceBEq, if_true, if_false, Bool.false_eq_true, Option.isNone_none, true_and, and_true, and_self, get_push, isNonD, Bool.not_true, Bool.not_false, cs_from_first, cs_own, cs_others, cs_spare, cs_locks, cs_closed, sl, s1, s3, s7, eR, lR, sD]
      refine ⟨by decide, ?_⟩
      try simp (maxDischargeDepth := 9) only [W_seq, W_asg, W_set, W_V, WV_some, W_C, W_op, W_cmpT, W_isB, W_un, W_tru, W_andT, W_orT, W_notT, W_andV, W_orV, W_notV, W_ife, W_nil, W_cons, W_tup, W_lst, W_addI, W_subI, W_iaddI, W_negI, W_mulI, W_fdivI, W_modI, W_powI, W_cmpI, W_isB_bl, W_isNB, W_isN, W_isntB, W_isntN, W_eqI, W_neI, W_pass, W_brk, W_cont, W_drop, W_rt, W_rtN, W_ifS, W_gsNil, W_gsCons, W_gTup, W_aug, W_call, W_B, RtN_rt, RtN_nx, W_abs, W_intI, W_intB, W_noPart, W_part, W_sl, W_lm, W_lm0, W_iter, W_range1, W_range2, W_forE, W_revE, W_compE, W_yes, W_lenT, W_truB, W_truI, List.append_nil, List.getElem?_cons_zero, List.getElem?_cons_succ, List.set_cons_zero, List.set_cons_succ, List.getElem?_set_self, List.getElem?_set_ne, lt_set, ne_eq, Nat.reduceEqDiff, not_false_eq_true, Nat.reduceLT, Nat.zero_ne_one, Nat.one_ne_zero, Nat.lt_add_one, Nat.zero_lt_succ, startD, List.map_cons, List.map_nil, List.length_cons, List.length_nil, List.cons_append, List.nil_append, Nat.reduceAdd, Nat.reduceSub, Nat.zero_add, List.replicate_succ, List.replicate_zero, W_inSC, List.all_cons, List.all_nil, flatD, List.any_cons, List.any_nil, eqF, Bool.and_true, Bool.or_false, Bool.or_true, Bool.true_or, Bool.false_or, Bool.true_and, Bool.false_and, Option.some.injEq, D.int.injEq, exists_eq_left', exists_eq_left, W_listT, List.set_set, lt_push, len_lt, List.getElem?_append_left, W_fldC, W_setFC, W_clsC, W_methC, W_lenC, W_ixC, W_ixTO, W_isLstC, W_appC, W_listC, W_tupC, W_truC, W_slC, W_slTT, W_addTT, W_addC, W_setIC, W_getIC, W_delC, W_isDctC, W_dgetC, W_dictC, W_dict0, W_eqS, W_neS, W_eqB, W_neB, W_meth, W_make, W_setF, W_augF, W_callK, W_chain, W_chainT, W_del, W_gSub, W_augI, W_get1, W_srcC, WCell_some, WO_some, at0, at1, at2, at3, at4, at5, ix0, ix1, at_nat, memS, lookF, putFD, String.reduceEq, String.reduceBEq, if_true, if_false, Bool.false_eq_true, Option.isNone_none, true_and, and_true, and_self, get_push, isNonD, Bool.not_true, Bool.not_false, cs_from_first, cs_own, cs_others, cs_spare, cs_locks, cs_closed, sl, s1, s3, s7, eR, lR, sD]
      refine shares_law get_push (by omega) ?_
      simp (maxDischargeDepth := 9) only [W_seq, W_asg, W_set, W_V, WV_some, W_C, W_op, W_cmpT, W_isB, W_un, W_tru, W_andT, W_orT, W_notT, W_andV, W_orV, W_notV, W_ife, W_nil, W_cons, W_tup, W_lst, W_addI, W_subI, W_iaddI, W_negI, W_mulI, W_fdivI, W_modI, W_powI, W_cmpI, W_isB_bl, W_isNB, W_isN, W_isntB, W_isntN, W_eqI, W_neI, W_pass, W_brk, W_cont, W_drop, W_rt, W_rtN, W_ifS, W_gsNil, W_gsCons, W_gTup, W_aug, W_call, W_B, RtN_rt, RtN_nx, W_abs, W_intI, W_intB, W_noPart, W_part, W_sl, W_lm, W_lm0, W_iter, W_range1, W_range2, W_forE, W_revE, W_compE, W_yes, W_lenT, W_truB, W_truI, List.append_nil, List.getElem?_cons_zero, List.getElem?_cons_succ, List.set_cons_zero, List.set_cons_succ, List.getElem?_set_self, List.getElem?_set_ne, lt_set, ne_eq, Nat.reduceEqDiff, not_false_eq_true, Nat.reduceLT, Nat.zero_ne_one, Nat.one_ne_zero, Nat.lt_add_one, Nat.zero_lt_succ, startD, List.map_cons, List.map_nil, List.length_cons, List.length_nil, List.cons_append, List.nil_append, Nat.reduceAdd, Nat.reduceSub, Nat.zero_add, List.replicate_succ, List.replicate_zero, W_inSC, List.all_cons, List.all_nil, flatD, List.any_cons, List.any_nil, eqF, Bool.and_true, Bool.or_false, Bool.or_true, Bool.true_or, Bool.false_or, Bool.true_and, Bool.false_and, Option.some.injEq, D.int.injEq, exists_eq_left', exists_eq_left, W_listT, List.set_set, lt_push, len_lt, List.getElem?_append_left, W_fldC, W_setFC, W_clsC, W_methC, W_lenC, W_ixC, W_ixTO, W_isLstC, W_appC, W_listC, W_tupC, W_truC, W_slC, W_slTT, W_addTT, W_addC, W_setIC, W_getIC, W_delC, W_isDctC, W_dgetC, W_dictC, W_dict0, W_eqS, W_neS, W_eqB, W_neB, W_meth, W_make, W_setF, W_augF, W_callK, W_chain, W_chainT, W_del, W_gSub, W_augI, W_get1, W_srcC, WCell_some, WO_some, at0, at1, at2, at3, at4, at5, ix0, ix1, at_nat, memS, lookF, putFD, String.reduceEq, String.reduceBEq, if_true, if_false, Bool.false_eq_true, Option.isNone_none, true_and, and_true, and_self, get_push, isNonD, Bool.not_true, Bool.not_false, cs_from_first, cs_own, cs_others, cs_spare, cs_locks, cs_closed, sl, s1, s3, s7, eR, lR, sD]
      refine shares_law get_push (by rw [List.length_append]; omega) ?_
      simp (maxDischargeDepth := 9) only [W_seq, W_asg, W_set, W_V, WV_some, W_C, W_op, W_cmpT, W_isB, W_un, W_tru, W_andT, W_orT, W_notT, W_andV, W_orV, W_notV, W_ife, W_nil, W_cons, W_tup, W_lst, W_addI, W_subI, W_iaddI, W_negI, W_mulI, W_fdivI, W_modI, W_powI, W_cmpI, W_isB_bl, W_isNB, W_isN, W_isntB, W_isntN, W_eqI, W_neI, W_pass, W_brk, W_cont, W_drop, W_rt, W_rtN, W_ifS, W_gsNil, W_gsCons, W_gTup, W_aug, W_call, W_B, RtN_rt, RtN_nx, W_abs, W_intI, W_intB, W_noPart, W_part, W_sl, W_lm, W_lm0, W_iter, W_range1, W_range2, W_forE, W_revE, W_compE, W_yes, W_lenT, W_truB, W_truI, List.append_nil, List.getElem?_cons_zero, List.getElem?_cons_succ, List.set_cons_zero, List.set_cons_succ, List.getElem?_set_self, List.getElem?_set_ne, lt_set, ne_eq, Nat.reduceEqDiff, not_false_eq_true, Nat.reduceLT, Nat.zero_ne_one, Nat.one_ne_zero, Nat.lt_add_one, Nat.zero_lt_succ, startD, List.map_cons, List.map_nil, List.length_cons, List.length_nil, List.cons_append, List.nil_append, Nat.reduceAdd, Nat.reduceSub, Nat.zero_add, List.replicate_succ, List.replicate_zero, W_inSC, List.all_cons, List.all_nil, flatD, List.any_cons, List.any_nil, eqF, Bool.and_true, Bool.or_false, Bool.or_true, Bool.true_or, Bool.false_or, Bool.true_and, Bool.false_and, Option.some.injEq, D.int.injEq, exists_eq_left', exists_eq_left, W_listT, List.set_set, lt_push, len_lt, List.getElem?_append_left, W_fldC, W_setFC, W_clsC, W_methC, W_lenC, W_ixC, W_ixTO, W_isLstC, W_appC, W_listC, W_tupC, W_truC, W_slC, W_slTT, W_addTT, W_addC, W_setIC, W_getIC, W_delC, W_isDctC, W_dgetC, W_dictC, W_dict0, W_eqS, W_neS, W_eqB, W_neB, W_meth, W_make, W_setF, W_augF, W_callK, W_chain, W_chainT, W_del, W_gSub, W_augI, W_get1, W_srcC, WCell_some, WO_some, at0, at1, at2, at3, at4, at5, ix0, ix1, at_nat, memS, lookF, putFD, String.reduceEq, String.reduceBEq, if_true, if_false, Bool.false_eq_true, Option.isNone_none, true_and, and_true, and_self, get_push, isNonD, Bool.not_true, Bool.not_false, cs_from_first, cs_own, cs_others, cs_spare, cs_locks, cs_closed, sl, s1, s3, s7, eR, lR, sD]
      refine ⟨by decide, by decide, by decide, ?_⟩
      rw [show (turn s).locks = s.locks.map flip from rfl, fA_flip, sB_flip, show s.a + fA rs s.locks - s.a = fA rs s.locks by omega, show s.b + sB rs s.locks - s.b = sB rs s.locks by omega]
      refine same_law (w := 12) (d := 3) (rp_pairs (by simp <;> omega) (get_pushL get_push)) (rp_pairs (by simp <;> omega) get_push) (by simp <;> omega) fun g4 F4 => ?_
      have hd4 := F4.dk (Fr.push (S := []).dk (Fr.push (S := []).dk (Fr.push (S := []).dk (Fr.push (S := []).dk hd3))))
      simp (maxDischargeDepth := 9) only [W_seq, W_asg, W_set, W_V, WV_some, W_C, W_op, W_cmpT, W_isB, W_un, W_tru, W_andT, W_orT, W_notT, W_andV, W_orV, W_notV, W_ife, W_nil, W_cons, W_tup, W_lst, W_addI, W_subI, W_iaddI, W_negI, W_mulI, W_fdivI, W_modI, W_powI, W_cmpI, W_isB_bl, W_isNB, W_isN, W_isntB, W_isntN, W_eqI, W_neI, W_pass, W_brk, W_cont, W_drop, W_rt, W_rtN, W_ifS, W_gsNil, W_gsCons, W_gTup, W_aug, W_call, W_B, RtN_rt, RtN_nx, W_abs, W_intI, W_intB, W_noPart, W_part, W_sl, W_lm, W_lm0, W_iter, W_range1, W_range2, W_forE, W_revE, W_compE, W_yes, W_lenT, W_truB, W_truI, List.append_nil, List.getElem?_cons_zero, List.getElem?_cons_succ, List.set_cons_zero, List.set_cons_succ, List.getElem?_set_self, List.getElem?_set_ne, lt_set, ne_eq, Nat.reduceEqDiff, not_false_eq_true, Nat.reduceLT, Nat.zero_ne_one, Nat.one_ne_zero, Nat.lt_add_one, Nat.zero_lt_succ, startD, List.map_cons, List.map_nil, List.length_cons, List.length_nil, List.cons_append, List.nil_append, Nat.reduceAdd, Nat.reduceSub, Nat.zero_add, List.replicate_succ, List.replicate_zero, W_inSC, List.all_cons, List.all_nil, flatD, List.any_cons, List.any_nil, eqF, Bool.and_true, Bool.or_false, Bool.or_true, Bool.true_or, Bool.false_or, Bool.true_and, Bool.false_and, Option.some.injEq, D.int.injEq, exists_eq_left', exists_eq_left, W_listT, List.set_set, lt_push, len_lt, List.getElem?_append_left, W_fldC, W_setFC, W_clsC, W_methC, W_lenC, W_ixC, W_ixTO, W_isLstC, W_appC, W_listC, W_tupC, W_truC, W_slC, W_slTT, W_addTT, W_addC, W_setIC, W_getIC, W_delC, W_isDctC, W_dgetC, W_dictC, W_dict0, W_eqS, W_neS, W_eqB, W_neB, W_meth, W_make, W_setF, W_augF, W_callK, W_chain, W_chainT, W_del, W_gSub, W_augI, W_get1, W_srcC, WCell_some, WO_some, at0, at1, at2, at3, at4, at5, ix0, ix1, at_nat, memS, lookF, putFD, String.reduceEq, String.reduceBEq, if_true, if_false, Bool.false_eq_true, Option.isNone_none, true_and, and_true, and_self, get_push, isNonD, Bool.not_true, Bool.not_false, cs_from_first, cs_own, cs_others, cs_spare, cs_locks, cs_closed, sl, s1, s3, s7, sD]
      refine first_law ?_
      simp (maxDischargeDepth := 9) only [W_seq, W_asg, W_set, W_V, WV_some, W_C, W_op, W_cmpT, W_isB, W_un, W_tru, W_andT, W_orT, W_notT, W_andV, W_orV, W_notV, W_ife, W_nil, W_cons, W_tup, W_lst, W_addI, W_subI, W_iaddI, W_negI, W_mulI, W_fdivI, W_modI, W_powI, W_cmpI, W_isB_bl, W_isNB, W_isN, W_isntB, W_isntN, W_eqI, W_neI, W_pass, W_brk, W_cont, W_drop, W_rt, W_rtN, W_ifS, W_gsNil, W_gsCons, W_gTup, W_aug, W_call, W_B, RtN_rt, RtN_nx, W_abs, W_intI, W_intB, W_noPart, W_part, W_sl, W_lm, W_lm0, W_iter, W_range1, W_range2, W_forE, W_revE, W_compE, W_yes, W_lenT, W_truB, W_truI, List.append_nil, List.getElem?_cons_zero, List.getElem?_cons_succ, List.set_cons_zero, List.set_cons_succ, List.getElem?_set_self, List.getElem?_set_ne, lt_set, ne_eq, Nat.reduceEqDiff, not_false_eq_true, Nat.reduceLT, Nat.zero_ne_one, Nat.one_ne_zero, Nat.lt_add_one, Nat.zero_lt_succ, startD, List.map_cons, List.map_nil, List.length_cons, List.length_nil, List.cons_append, List.nil_append, Nat.reduceAdd, Nat.reduceSub, Nat.zero_add, List.replicate_succ, List.replicate_zero, W_inSC, List.all_cons, List.all_nil, flatD, List.any_cons, List.any_nil, eqF, Bool.and_true, Bool.or_false, Bool.or_true, Bool.true_or, Bool.false_or, Bool.true_and, Bool.false_and, Option.some.injEq, D.int.injEq, exists_eq_left', exists_eq_left, W_listT, List.set_set, lt_push, len_lt, List.getElem?_append_left, W_fldC, W_setFC, W_clsC, W_methC, W_lenC, W_ixC, W_ixTO, W_isLstC, W_appC, W_listC, W_tupC, W_truC, W_slC, W_slTT, W_addTT, W_addC, W_setIC, W_getIC, W_delC, W_isDctC, W_dgetC, W_dictC, W_dict0, W_eqS, W_neS, W_eqB, W_neB, W_meth, W_make, W_setF, W_augF, W_callK, W_chain, W_chainT, W_del, W_gSub, W_augI, W_get1, W_srcC, WCell_some, WO_some, at0, at1, at2, at3, at4, at5, ix0, ix1, at_nat, memS, lookF, putFD, String.reduceEq, String.reduceBEq, if_true, if_false, Bool.false_eq_true, Option.isNone_none, true_and, and_true, and_self, get_push, isNonD, Bool.not_true, Bool.not_false, cs_from_first, cs_own, cs_others, cs_spare, cs_locks, cs_closed, sl, s1, s3, s7, sD]
      refine first_law ?_
      simp (maxDischargeDepth := 9) only [W_seq, W_asg, W_set, W_V, WV_some, W_C, W_op, W_cmpT, W_isB, W_un, W_tru, W_andT, W_orT, W_notT, W_andV, W_orV, W_notV, W_ife, W_nil, W_cons, W_tup, W_lst, W_addI, W_subI, W_iaddI, W_negI, W_mulI, W_fdivI, W_modI, W_powI, W_cmpI, W_isB_bl, W_isNB, W_isN, W_isntB, W_isntN, W_eqI, W_neI, W_pass, W_brk, W_cont, W_drop, W_rt, W_rtN, W_ifS, W_gsNil, W_gsCons, W_gTup, W_aug, W_call, W_B, RtN_rt, RtN_nx, W_abs, W_intI, W_intB, W_noPart, W_part, W_sl, W_lm, W_lm0, W_iter, W_range1, W_range2, W_forE, W_revE, W_compE, W_yes, W_lenT, W_truB, W_truI, List.append_nil, List.getElem?_cons_zero, List.getElem?_cons_succ, List.set_cons_zero, List.set_cons_succ, List.getElem?_set_self, List.getElem?_set_ne, lt_set, ne_eq, Nat.reduceEqDiff, not_false_eq_true, Nat.reduceLT, Nat.zero_ne_one, Nat.one_ne_zero, Nat.lt_add_one, Nat.zero_lt_succ, startD, List.map_cons, List.map_nil, List.length_cons, List.length_nil, List.cons_append, List.nil_append, Nat.reduceAdd, Nat.reduceSub, Nat.zero_add, List.replicate_succ, List.replicate_zero, W_inSC, List.all_cons, List.all_nil, flatD, List.any_cons, List.any_nil, eqF, Bool.and_true, Bool.or_false, Bool.or_true, Bool.true_or, Bool.false_or, Bool.true_and, Bool.false_and, Option.some.injEq, D.int.injEq, exists_eq_left', exists_eq_left, W_listT, List.set_set, lt_push, len_lt, List.getElem?_append_left, W_fldC, W_setFC, W_clsC, W_methC, W_lenC, W_ixC, W_ixTO, W_isLstC, W_appC, W_listC, W_tupC, W_truC, W_slC, W_slTT, W_addTT, W_addC, W_setIC, W_getIC, W_delC, W_isDctC, W_dgetC, W_dictC, W_dict0, W_eqS, W_neS, W_eqB, W_neB, W_meth, W_make, W_setF, W_augF, W_callK, W_chain, W_chainT, W_del, W_gSub, W_augI, W_get1, W_srcC, WCell_some, WO_some, at0, at1, at2, at3, at4, at5, ix0, ix1, at_nat, memS, lookF, putFD, String.reduceEq, String.reduceBEq, if_true, if_false, Bool.false_eq_true, Option.isNone_none, true_and, and_true, and_self, get_push, isNonD, Bool.not_true, Bool.not_false, cs_from_first, cs_own, cs_others, cs_spare, cs_locks, cs_closed, sl, s1, s3, s7, sD]
      rw [show ((s.num % 2 == 1) == ((turn s).num % 2 == 1)) = false by
        show ((s.num % 2 == 1) == ((s.num + 1) % 2 == 1)) = false
        rcases Int.emod_two_eq s.num with e | e
        · have : (s.num + 1) % 2 = 1 := by omega
          rw [e, this]; rfl
        · have : (s.num + 1) % 2 = 0 := by omega
          rw [e, this]; rfl]
      simp (maxDischargeDepth := 9) only [W_seq, W_asg, W_set, W_V, WV_some, W_C, W_op, W_cmpT, W_isB, W_un, W_tru, W_andT, W_orT, W_notT, W_andV, W_orV, W_notV, W_ife, W_nil, W_cons, W_tup, W_lst, W_addI, W_subI, W_iaddI, W_negI, W_mulI, W_fdivI, W_modI, W_powI, W_cmpI, W_isB_bl, W_isNB, W_isN, W_isntB, W_isntN, W_eqI, W_neI, W_pass, W_brk, W_cont, W_drop, W_rt, W_rtN, W_ifS, W_gsNil, W_gsCons, W_gTup, W_aug, W_call, W_B, RtN_rt, RtN_nx, W_abs, W_intI, W_intB, W_noPart, W_part, W_sl, W_lm, W_lm0, W_iter, W_range1, W_range2, W_forE, W_revE, W_compE, W_yes, W_lenT, W_truB, W_truI, List.append_nil, List.getElem?_cons_zero, List.getElem?_cons_succ, List.set_cons_zero, List.set_cons_succ, List.getElem?_set_self, List.getElem?_set_ne, lt_set, ne_eq, Nat.reduceEqDiff, not_false_eq_true, Nat.reduceLT, Nat.zero_ne_one, Nat.one_ne_zero, Nat.lt_add_one, Nat.zero_lt_succ, startD, List.map_cons, List.map_nil, List.length_cons, List.length_nil, List.cons_append, List.nil_append, Nat.reduceAdd, Nat.reduceSub, Nat.zero_add, List.replicate_succ, List.replicate_zero, W_inSC, List.all_cons, List.all_nil, flatD, List.any_cons, List.any_nil, eqF, Bool.and_true, Bool.or_false, Bool.or_true, Bool.true_or, Bool.false_or, Bool.true_and, Bool.false_and, Option.some.injEq, D.int.injEq, exists_eq_left', exists_eq_left, W_listT, List.set_set, lt_push, len_lt, List.getElem?_append_left, W_fldC, W_setFC, W_clsC, W_methC, W_lenC, W_ixC, W_ixTO, W_isLstC, W_appC, W_listC, W_tupC, W_truC, W_slC, W_slTT, W_addTT, W_addC, W_setIC, W_getIC, W_delC, W_isDctC, W_dgetC, W_dictC, W_dict0, W_eqS, W_neS, W_eqB, W_neB, W_meth, W_make, W_setF, W_augF, W_callK, W_chain, W_chainT, W_del, W_gSub, W_augI, W_get1, W_srcC, WCell_some, WO_some, at0, at1, at2, at3, at4, at5, ix0, ix1, at_nat, memS, lookF, putFD, String.reduceEq, String.reduceBEq, if_true, if_false, Bool.false_eq_true, Option.isNone_none, true_and, and_true, and_self, get_push, isNonD, Bool.not_true, Bool.not_false, cs_from_first, cs_own, cs_others, cs_spare, cs_locks, cs_closed]
      exact q _ _ (by simp [sl]) (by simp [s1]) hd4
    cases due with
    | none =>
      simp (maxDischargeDepth := 9) only [W_seq, W_asg, W_set, W_V, WV_some, W_C, W_op, W_cmpT, W_isB, W_un, W_tru, W_andT, W_orT, W_notT, W_andV, W_orV, W_notV, W_ife, W_nil, W_cons, W_tup, W_lst, W_addI, W_subI, W_iaddI, W_negI, W_mulI, W_fdivI, W_modI, W_powI, W_cmpI, W_isB_bl, W_isNB, W_isN, W_isntB, W_isntN, W_eqI, W_neI, W_pass, W_brk, W_cont, W_drop, W_rt, W_rtN, W_ifS, W_gsNil, W_gsCons, W_gTup, W_aug, W_call, W_B, RtN_rt, RtN_nx, W_abs, W_intI, W_intB, W_noPart, W_part, W_sl, W_lm, W_lm0, W_iter, W_range1, W_range2, W_forE, W_revE, W_compE, W_yes, W_lenT, W_truB, W_truI, List.append_nil, List.getElem?_cons_zero, List.getElem?_cons_succ, List.set_cons_zero, List.set_cons_succ, List.getElem?_set_self, List.getElem?_set_ne, lt_set, ne_eq, Nat.reduceEqDiff, not_false_eq_true, Nat.reduceLT, Nat.zero_ne_one, Nat.one_ne_zero, Nat.lt_add_one, Nat.zero_lt_succ, startD, List.map_cons, List.map_nil, List.length_cons, List.length_nil, List.cons_append, List.nil_append, Nat.reduceAdd, Nat.reduceSub, Nat.zero_add, List.replicate_succ, List.replicate_zero, W_inSC, List.all_cons, List.all_nil, flatD, List.any_cons, List.any_nil, eqF, Bool.and_true, Bool.or_false, Bool.or_true, Bool.true_or, Bool.false_or, Bool.true_and, Bool.false_and, Option.some.injEq, D.int.injEq, exists_eq_left', exists_eq_left, W_listT, List.set_set, lt_push, len_lt, List.getElem?_append_left, W_fldC, W_setFC, W_clsC, W_methC, W_lenC, W_ixC, W_ixTO, W_isLstC, W_appC, W_listC, W_tupC, W_truC, W_slC, W_slTT, W_addTT, W_addC, W_setIC, W_getIC, W_delC, W_isDctC, W_dgetC, W_dictC, W_dict0, W_eqS, W_neS, W_eqB, W_neB, W_meth, W_make, W_setF, W_augF, W_callK, W_chain, W_chainT, W_del, W_gSub, W_augI, W_get1, W_srcC, WCell_some, WO_some, at0, at1, at2, at3, at4, at5, ix0, ix1, at_nat, memS, lookF, putFD, String.reduceEq, String.reduceBEq, if_true, if_false, Bool.false_eq_true, Option.isNone_none, true_and, and_true, and_self, get_push, isNonD, Bool.not_true, Bool.not_false, cs_from_first, cs_own, cs_others, cs_spare, cs_locks, cs_closed, oD, Option.map_none, sl, s1]
      refine same_law (w := 12) (d := 4) (rp_o (o := none) (d := 0) fun t e => by cases e) (rp_o (o := none) (d := 0) fun t e => by cases e) hd10.lt fun h11 F11 => ?_
      have hd11 := F11.dk hd10
      simp (maxDischargeDepth := 9) only [W_seq, W_asg, W_set, W_V, WV_some, W_C, W_op, W_cmpT, W_isB, W_un, W_tru, W_andT, W_orT, W_notT, W_andV, W_orV, W_notV, W_ife, W_nil, W_cons, W_tup, W_lst, W_addI, W_subI, W_iaddI, W_negI, W_mulI, W_fdivI, W_modI, W_powI, W_cmpI, W_isB_bl, W_isNB, W_isN, W_isntB, W_isntN, W_eqI, W_neI, W_pass, W_brk, W_cont, W_drop, W_rt, W_rtN, W_ifS, W_gsNil, W_gsCons, W_gTup, W_aug, W_call, W_B, RtN_rt, RtN_nx, W_abs, W_intI, W_intB, W_noPart, W_part, W_sl, W_lm, W_lm0, W_iter, W_range1, W_range2, W_forE, W_revE, W_compE, W_yes, W_lenT, W_truB, W_truI, List.append_nil, List.getElem?_cons_zero, List.getElem?_cons_succ, List.set_cons_zero, List.set_cons_succ, List.getElem?_set_self, List.getElem?_set_ne, lt_set, ne_eq, Nat.reduceEqDiff, not_false_eq_true, Nat.reduceLT, Nat.zero_ne_one, Nat.one_ne_zero, Nat.lt_add_one, Nat.zero_lt_succ, startD, List.map_cons, List.map_nil, List.length_cons, List.length_nil, List.cons_append, List.nil_append, Nat.reduceAdd, Nat.reduceSub, Nat.zero_add, List.replicate_succ, List.replicate_zero, W_inSC, List.all_cons, List.all_nil, flatD, List.any_cons, List.any_nil, eqF, Bool.and_true, Bool.or_false, Bool.or_true, Bool.true_or, Bool.false_or, Bool.true_and, Bool.false_and, Option.some.injEq, D.int.injEq, exists_eq_left', exists_eq_left, W_listT, List.set_set, lt_push, len_lt, List.getElem?_append_left, W_fldC, W_setFC, W_clsC, W_methC, W_lenC, W_ixC, W_ixTO, W_isLstC, W_appC, W_listC, W_tupC, W_truC, W_slC, W_slTT, W_addTT, W_addC, W_setIC, W_getIC, W_delC, W_isDctC, W_dgetC, W_dictC, W_dict0, W_eqS, W_neS, W_eqB, W_neB, W_meth, W_make, W_setF, W_augF, W_callK, W_chain, W_chainT, W_del, W_gSub, W_augI, W_get1, W_srcC, WCell_some, WO_some, at0, at1, at2, at3, at4, at5, ix0, ix1, at_nat, memS, lookF, putFD, String.reduceEq, String.reduceBEq, if_true, if_false, Bool.false_eq_true, Option.isNone_none, true_and, and_true, and_self, get_push, isNonD, Bool.not_true, Bool.not_false, cs_from_first, cs_own, cs_others, cs_spare, cs_locks, cs_closed, sl, s1]
      exact rest _ _ hd11 (by simp [sl]) (by simp [s1]) (by simp [sl]) (by simp [sl])
    | some t =>
      have tsz := osz t rfl
      simp (maxDischargeDepth := 9) only [W_seq, W_asg, W_set, W_V, WV_some, W_C, W_op, W_cmpT, W_isB, W_un, W_tru, W_andT, W_orT, W_notT, W_andV, W_orV, W_notV, W_ife, W_nil, W_cons, W_tup, W_lst, W_addI, W_subI, W_iaddI, W_negI, W_mulI, W_fdivI, W_modI, W_powI, W_cmpI, W_isB_bl, W_isNB, W_isN, W_isntB, W_isntN, W_eqI, W_neI, W_pass, W_brk, W_cont, W_drop, W_rt, W_rtN, W_ifS, W_gsNil, W_gsCons, W_gTup, W_aug, W_call, W_B, RtN_rt, RtN_nx, W_abs, W_intI, W_intB, W_noPart, W_part, W_sl, W_lm, W_lm0, W_iter, W_range1, W_range2, W_forE, W_revE, W_compE, W_yes, W_lenT, W_truB, W_truI, List.append_nil, List.getElem?_cons_zero, List.getElem?_cons_succ, List.set_cons_zero, List.set_cons_succ, List.getElem?_set_self, List.getElem?_set_ne, lt_set, ne_eq, Nat.reduceEqDiff, not_false_eq_true, Nat.reduceLT, Nat.zero_ne_one, Nat.one_ne_zero, Nat.lt_add_one, Nat.zero_lt_succ, startD, List.map_cons, List.map_nil, List.length_cons, List.length_nil, List.cons_append, List.nil_append, Nat.reduceAdd, Nat.reduceSub, Nat.zero_add, List.replicate_succ, List.replicate_zero, W_inSC, List.all_cons, List.all_nil, flatD, List.any_cons, List.any_nil, eqF, Bool.and_true, Bool.or_false, Bool.or_true, Bool.true_or, Bool.false_or, Bool.true_and, Bool.false_and, Option.some.injEq, D.int.injEq, exists_eq_left', exists_eq_left, W_listT, List.set_set, lt_push, len_lt, List.getElem?_append_left, W_fldC, W_setFC, W_clsC, W_methC, W_lenC, W_ixC, W_ixTO, W_isLstC, W_appC, W_listC, W_tupC, W_truC, W_slC, W_slTT, W_addTT, W_addC, W_setIC, W_getIC, W_delC, W_isDctC, W_dgetC, W_dictC, W_dict0, W_eqS, W_neS, W_eqB, W_neB, W_meth, W_make, W_setF, W_augF, W_callK, W_chain, W_chainT, W_del, W_gSub, W_augI, W_get1, W_srcC, WCell_some, WO_some, at0, at1, at2, at3, at4, at5, ix0, ix1, at_nat, memS, lookF, putFD, String.reduceEq, String.reduceBEq, if_true, if_false, Bool.false_eq_true, Option.isNone_none, true_and, and_true, and_self, get_push, isNonD, Bool.not_true, Bool.not_false, cs_from_first, cs_own, cs_others, cs_spare, cs_locks, cs_closed, oD, sD, Option.map_some, sl, s1]
      rw [show D.tup [.int t.ch, .int t.num, .int t.a, .int t.b, .tup (t.locks.map lD), .bl t.cl] = sD t from rfl]
      refine turned_law (by have := hd10.lt; omega) tsz fun h11 F11 => ?_
      have hd11 := F11.dk hd10
      have xsz : (turn t).locks.length ≤ 8 := by simpa [turn] using tsz
      simp (maxDischargeDepth := 9) only [W_seq, W_asg, W_set, W_V, WV_some, W_C, W_op, W_cmpT, W_isB, W_un, W_tru, W_andT, W_orT, W_notT, W_andV, W_orV, W_notV, W_ife, W_nil, W_cons, W_tup, W_lst, W_addI, W_subI, W_iaddI, W_negI, W_mulI, W_fdivI, W_modI, W_powI, W_cmpI, W_isB_bl, W_isNB, W_isN, W_isntB, W_isntN, W_eqI, W_neI, W_pass, W_brk, W_cont, W_drop, W_rt, W_rtN, W_ifS, W_gsNil, W_gsCons, W_gTup, W_aug, W_call, W_B, RtN_rt, RtN_nx, W_abs, W_intI, W_intB, W_noPart, W_part, W_sl, W_lm, W_lm0, W_iter, W_range1, W_range2, W_forE, W_revE, W_compE, W_yes, W_lenT, W_truB, W_truI, List.append_nil, List.getElem?_cons_zero, List.getElem?_cons_succ, List.set_cons_zero, List.set_cons_succ, List.getElem?_set_self, List.getElem?_set_ne, lt_set, ne_eq, Nat.reduceEqDiff, not_false_eq_true, Nat.reduceLT, Nat.zero_ne_one, Nat.one_ne_zero, Nat.lt_add_one, Nat.zero_lt_succ, startD, List.map_cons, List.map_nil, List.length_cons, List.length_nil, List.cons_append, List.nil_append, Nat.reduceAdd, Nat.reduceSub, Nat.zero_add, List.replicate_succ, List.replicate_zero, W_inSC, List.all_cons, List.all_nil, flatD, List.any_cons, List.any_nil, eqF, Bool.and_true, Bool.or_false, Bool.or_true, Bool.true_or, Bool.false_or, Bool.true_and, Bool.false_and, Option.some.injEq, D.int.injEq, exists_eq_left', exists_eq_left, W_listT, List.set_set, lt_push, len_lt, List.getElem?_append_left, W_fldC, W_setFC, W_clsC, W_methC, W_lenC, W_ixC, W_ixTO, W_isLstC, W_appC, W_listC, W_tupC, W_truC, W_slC, W_slTT, W_addTT, W_addC, W_setIC, W_getIC, W_delC, W_isDctC, W_dgetC, W_dictC, W_dict0, W_eqS, W_neS, W_eqB, W_neB, W_meth, W_make, W_setF, W_augF, W_callK, W_chain, W_chainT, W_del, W_gSub, W_augI, W_get1, W_srcC, WCell_some, WO_some, at0, at1, at2, at3, at4, at5, ix0, ix1, at_nat, memS, lookF, putFD, String.reduceEq, String.reduceBEq, if_true, if_false, Bool.false_eq_true, Option.isNone_none, true_and, and_true, and_self, get_push, isNonD, Bool.not_true, Bool.not_false, cs_from_first, cs_own, cs_others, cs_spare, cs_locks, cs_closed, oD, sl, s1]
      refine same_law (w := 12) (d := 4) (rp_state (s := turn t) (d := 0) (by omega)) (rp_state (s := turn t) (d := 0) (by omega)) hd11.lt fun h12 F12 => ?_
      have hd12 := F12.dk hd11
      simp (maxDischargeDepth := 9) only [W_seq, W_asg, W_set, W_V, WV_some, W_C, W_op, W_cmpT, W_isB, W_un, W_tru, W_andT, W_orT, W_notT, W_andV, W_orV, W_notV, W_ife, W_nil, W_cons, W_tup, W_lst, W_addI, W_subI, W_iaddI, W_negI, W_mulI, W_fdivI, W_modI, W_powI, W_cmpI, W_isB_bl, W_isNB, W_isN, W_isntB, W_isntN, W_eqI, W_neI, W_pass, W_brk, W_cont, W_drop, W_rt, W_rtN, W_ifS, W_gsNil, W_gsCons, W_gTup, W_aug, W_call, W_B, RtN_rt, RtN_nx, W_abs, W_intI, W_intB, W_noPart, W_part, W_sl, W_lm, W_lm0, W_iter, W_range1, W_range2, W_forE, W_revE, W_compE, W_yes, W_lenT, W_truB, W_truI, List.append_nil, List.getElem?_cons_zero, List.getElem?_cons_succ, List.set_cons_zero, List.set_cons_succ, List.getElem?_set_self, List.getElem?_set_ne, lt_set, ne_eq, Nat.reduceEqDiff, not_false_eq_true, Nat.reduceLT, Nat.zero_ne_one, Nat.one_ne_zero, Nat.lt_add_one, Nat.zero_lt_succ, startD, List.map_cons, List.map_nil, List.length_cons, List.length_nil, List.cons_append, List.nil_append, Nat.reduceAdd, Nat.reduceSub, Nat.zero_add, List.replicate_succ, List.replicate_zero, W_inSC, List.all_cons, List.all_nil, flatD, List.any_cons, List.any_nil, eqF, Bool.and_true, Bool.or_false, Bool.or_true, Bool.true_or, Bool.false_or, Bool.true_and, Bool.false_and, Option.some.injEq, D.int.injEq, exists_eq_left', exists_eq_left, W_listT, List.set_set, lt_push, len_lt, List.getElem?_append_left, W_fldC, W_setFC, W_clsC, W_methC, W_lenC, W_ixC, W_ixTO, W_isLstC, W_appC, W_listC, W_tupC, W_truC, W_slC, W_slTT, W_addTT, W_addC, W_setIC, W_getIC, W_delC, W_isDctC, W_dgetC, W_dictC, W_dict0, W_eqS, W_neS, W_eqB, W_neB, W_meth, W_make, W_setF, W_augF, W_callK, W_chain, W_chainT, W_del, W_gSub, W_augI, W_get1, W_srcC, WCell_some, WO_some, at0, at1, at2, at3, at4, at5, ix0, ix1, at_nat, memS, lookF, putFD, String.reduceEq, String.reduceBEq, if_true, if_false, Bool.false_eq_true, Option.isNone_none, true_and, and_true, and_self, get_push, isNonD, Bool.not_true, Bool.not_false, cs_from_first, cs_own, cs_others, cs_spare, cs_locks, cs_closed, sl, s1]
      exact rest _ _ hd12 (by simp [sl]) (by simp [s1]) (by simp [sl, sD]) (by simp [sl, sD])
  by_cases rr : 0 < r
  · simp (maxDischargeDepth := 9) only [rr, decide_true, W_seq, W_asg, W_set, W_V, WV_some, W_C, W_op, W_cmpT, W_isB, W_un, W_tru, W_andT, W_orT, W_notT, W_andV, W_orV, W_notV, W_ife, W_nil, W_cons, W_tup, W_lst, W_addI, W_subI, W_iaddI, W_negI, W_mulI, W_fdivI, W_modI, W_powI, W_cmpI, W_isB_bl, W_isNB, W_isN, W_isntB, W_isntN, W_eqI, W_neI, W_pass, W_brk, W_cont, W_drop, W_rt, W_rtN, W_ifS, W_gsNil, W_gsCons, W_gTup, W_aug, W_call, W_B, RtN_rt, RtN_nx, W_abs, W_intI, W_intB, W_noPart, W_part, W_sl, W_lm, W_lm0, W_iter, W_range1, W_range2, W_forE, W_revE, W_compE, W_yes, W_lenT, W_truB, W_truI, List.append_nil, List.getElem?_cons_zero, List.getElem?_cons_succ, List.set_cons_zero, List.set_cons_succ, List.getElem?_set_self, List.getElem?_set_ne, lt_set, ne_eq, Nat.reduceEqDiff, not_false_eq_true, Nat.reduceLT, Nat.zero_ne_one, Nat.one_ne_zero, Nat.lt_add_one, Nat.zero_lt_succ, startD, List.map_cons, List.map_nil, List.length_cons, List.length_nil, List.cons_append, List.nil_append, Nat.reduceAdd, Nat.reduceSub, Nat.zero_add, List.replicate_succ, List.replicate_zero, W_inSC, List.all_cons, List.all_nil, flatD, List.any_cons, List.any_nil, eqF, Bool.and_true, Bool.or_false, Bool.or_true, Bool.true_or, Bool.false_or, Bool.true_and, Bool.false_and, Option.some.injEq, D.int.injEq, exists_eq_left', exists_eq_left, W_listT, List.set_set, lt_push, len_lt, List.getElem?_append_left, W_fldC, W_setFC, W_clsC, W_methC, W_lenC, W_ixC, W_ixTO, W_isLstC, W_appC, W_listC, W_tupC, W_truC, W_slC, W_slTT, W_addTT, W_addC, W_setIC, W_getIC, W_delC, W_isDctC, W_dgetC, W_dictC, W_dict0, W_eqS, W_neS, W_eqB, W_neB, W_meth, W_make, W_setF, W_augF, W_callK, W_chain, W_chainT, W_del, W_gSub, W_augI, W_get1, W_srcC, WCell_some, WO_some, at0, at1, at2, at3, at4, at5, ix0, ix1, at_nat, memS, lookF, putFD, String.reduceEq, String.reduceBEq, if_true, if_false, Bool.false_eq_true, Option.isNone_none, true_and, and_true, and_self, get_push, isNonD, Bool.not_true, Bool.not_false, cs_from_first, cs_own, cs_others, cs_spare, cs_locks, cs_closed, sl, s1]
    refine take_law hd4 (by decide) fun many h5 m0 m1 F5 hd5 => ?_
    simp (maxDischargeDepth := 9) only [W_seq, W_asg, W_set, W_V, WV_some, W_C, W_op, W_cmpT, W_isB, W_un, W_tru, W_andT, W_orT, W_notT, W_andV, W_orV, W_notV, W_ife, W_nil, W_cons, W_tup, W_lst, W_addI, W_subI, W_iaddI, W_negI, W_mulI, W_fdivI, W_modI, W_powI, W_cmpI, W_isB_bl, W_isNB, W_isN, W_isntB, W_isntN, W_eqI, W_neI, W_pass, W_brk, W_cont, W_drop, W_rt, W_rtN, W_ifS, W_gsNil, W_gsCons, W_gTup, W_aug, W_call, W_B, RtN_rt, RtN_nx, W_abs, W_intI, W_intB, W_noPart, W_part, W_sl, W_lm, W_lm0, W_iter, W_range1, W_range2, W_forE, W_revE, W_compE, W_yes, W_lenT, W_truB, W_truI, List.append_nil, List.getElem?_cons_zero, List.getElem?_cons_succ, List.set_cons_zero, List.set_cons_succ, List.getElem?_set_self, List.getElem?_set_ne, lt_set, ne_eq, Nat.reduceEqDiff, not_false_eq_true, Nat.reduceLT, Nat.zero_ne_one, Nat.one_ne_zero, Nat.lt_add_one, Nat.zero_lt_succ, startD, List.map_cons, List.map_nil, List.length_cons, List.length_nil, List.cons_append, List.nil_append, Nat.reduceAdd, Nat.reduceSub, Nat.zero_add, List.replicate_succ, List.replicate_zero, W_inSC, List.all_cons, List.all_nil, flatD, List.any_cons, List.any_nil, eqF, Bool.and_true, Bool.or_false, Bool.or_true, Bool.true_or, Bool.false_or, Bool.true_and, Bool.false_and, Option.some.injEq, D.int.injEq, exists_eq_left', exists_eq_left, W_listT, List.set_set, lt_push, len_lt, List.getElem?_append_left, W_fldC, W_setFC, W_clsC, W_methC, W_lenC, W_ixC, W_ixTO, W_isLstC, W_appC, W_listC, W_tupC, W_truC, W_slC, W_slTT, W_addTT, W_addC, W_setIC, W_getIC, W_delC, W_isDctC, W_dgetC, W_dictC, W_dict0, W_eqS, W_neS, W_eqB, W_neB, W_meth, W_make, W_setF, W_augF, W_callK, W_chain, W_chainT, W_del, W_gSub, W_augI, W_get1, W_srcC, WCell_some, WO_some, at0, at1, at2, at3, at4, at5, ix0, ix1, at_nat, memS, lookF, putFD, String.reduceEq, String.reduceBEq, if_true, if_false, Bool.false_eq_true, Option.isNone_none, true_and, and_true, and_self, get_push, isNonD, Bool.not_true, Bool.not_false, cs_from_first, cs_own, cs_others, cs_spare, cs_locks, cs_closed, sl, s1]
    refine right_law hd5 (by omega) hc (by omega) fun ms n h6 F6 hd6 n2 en ml hn => ?_
    exact tail n ms h6 hd6 n2 en (by omega)
  · simp (maxDischargeDepth := 9) only [rr, decide_false, W_seq, W_asg, W_set, W_V, WV_some, W_C, W_op, W_cmpT, W_isB, W_un, W_tru, W_andT, W_orT, W_notT, W_andV, W_orV, W_notV, W_ife, W_nil, W_cons, W_tup, W_lst, W_addI, W_subI, W_iaddI, W_negI, W_mulI, W_fdivI, W_modI, W_powI, W_cmpI, W_isB_bl, W_isNB, W_isN, W_isntB, W_isntN, W_eqI, W_neI, W_pass, W_brk, W_cont, W_drop, W_rt, W_rtN, W_ifS, W_gsNil, W_gsCons, W_gTup, W_aug, W_call, W_B, RtN_rt, RtN_nx, W_abs, W_intI, W_intB, W_noPart, W_part, W_sl, W_lm, W_lm0, W_iter, W_range1, W_range2, W_forE, W_revE, W_compE, W_yes, W_lenT, W_truB, W_truI, List.append_nil, List.getElem?_cons_zero, List.getElem?_cons_succ, List.set_cons_zero, List.set_cons_succ, List.getElem?_set_self, List.getElem?_set_ne, lt_set, ne_eq, Nat.reduceEqDiff, not_false_eq_true, Nat.reduceLT, Nat.zero_ne_one, Nat.one_ne_zero, Nat.lt_add_one, Nat.zero_lt_succ, startD, List.map_cons, List.map_nil, List.length_cons, List.length_nil, List.cons_append, List.nil_append, Nat.reduceAdd, Nat.reduceSub, Nat.zero_add, List.replicate_succ, List.replicate_zero, W_inSC, List.all_cons, List.all_nil, flatD, List.any_cons, List.any_nil, eqF, Bool.and_true, Bool.or_false, Bool.or_true, Bool.true_or, Bool.false_or, Bool.true_and, Bool.false_and, Option.some.injEq, D.int.injEq, exists_eq_left', exists_eq_left, W_listT, List.set_set, lt_push, len_lt, List.getElem?_append_left, W_fldC, W_setFC, W_clsC, W_methC, W_lenC, W_ixC, W_ixTO, W_isLstC, W_appC, W_listC, W_tupC, W_truC, W_slC, W_slTT, W_addTT, W_addC, W_setIC, W_getIC, W_delC, W_isDctC, W_dgetC, W_dictC, W_dict0, W_eqS, W_neS, W_eqB, W_neB, W_meth, W_make, W_setF, W_augF, W_callK, W_chain, W_chainT, W_del, W_gSub, W_augI, W_get1, W_srcC, WCell_some, WO_some, at0, at1, at2, at3, at4, at5, ix0, ix1, at_nat, memS, lookF, putFD, String.reduceEq, String.reduceBEq, if_true, if_false, Bool.false_eq_true, Option.isNone_none, true_and, and_true, and_self, get_push, isNonD, Bool.not_true, Bool.not_false, cs_from_first, cs_own, cs_others, cs_spare, cs_locks, cs_closed, sl, s1]
    refine take_law hd4 (by decide) fun cnt h5 m0 m1 F5 hd5 => ?_
    simp (maxDischargeDepth := 9) only [W_seq, W_asg, W_set, W_V, WV_some, W_C, W_op, W_cmpT, W_isB, W_un, W_tru, W_andT, W_orT, W_notT, W_andV, W_orV, W_notV, W_ife, W_nil, W_cons, W_tup, W_lst, W_addI, W_subI, W_iaddI, W_negI, W_mulI, W_fdivI, W_modI, W_powI, W_cmpI, W_isB_bl, W_isNB, W_isN, W_isntB, W_isntN, W_eqI, W_neI, W_pass, W_brk, W_cont, W_drop, W_rt, W_rtN, W_ifS, W_gsNil, W_gsCons, W_gTup, W_aug, W_call, W_B, RtN_rt, RtN_nx, W_abs, W_intI, W_intB, W_noPart, W_part, W_sl, W_lm, W_lm0, W_iter, W_range1, W_range2, W_forE, W_revE, W_compE, W_yes, W_lenT, W_truB, W_truI, List.append_nil, List.getElem?_cons_zero, List.getElem?_cons_succ, List.set_cons_zero, List.set_cons_succ, List.getElem?_set_self, List.getElem?_set_ne, lt_set, ne_eq, Nat.reduceEqDiff, not_false_eq_true, Nat.reduceLT, Nat.zero_ne_one, Nat.one_ne_zero, Nat.lt_add_one, Nat.zero_lt_succ, startD, List.map_cons, List.map_nil, List.length_cons, List.length_nil, List.cons_append, List.nil_append, Nat.reduceAdd, Nat.reduceSub, Nat.zero_add, List.replicate_succ, List.replicate_zero, W_inSC, List.all_cons, List.all_nil, flatD, List.any_cons, List.any_nil, eqF, Bool.and_true, Bool.or_false, Bool.or_true, Bool.true_or, Bool.false_or, Bool.true_and, Bool.false_and, Option.some.injEq, D.int.injEq, exists_eq_left', exists_eq_left, W_listT, List.set_set, lt_push, len_lt, List.getElem?_append_left, W_fldC, W_setFC, W_clsC, W_methC, W_lenC, W_ixC, W_ixTO, W_isLstC, W_appC, W_listC, W_tupC, W_truC, W_slC, W_slTT, W_addTT, W_addC, W_setIC, W_getIC, W_delC, W_isDctC, W_dgetC, W_dictC, W_dict0, W_eqS, W_neS, W_eqB, W_neB, W_meth, W_make, W_setF, W_augF, W_callK, W_chain, W_chainT, W_del, W_gSub, W_augI, W_get1, W_srcC, WCell_some, WO_some, at0, at1, at2, at3, at4, at5, ix0, ix1, at_nat, memS, lookF, putFD, String.reduceEq, String.reduceBEq, if_true, if_false, Bool.false_eq_true, Option.isNone_none, true_and, and_true, and_self, get_push, isNonD, Bool.not_true, Bool.not_false, cs_from_first, cs_own, cs_others, cs_spare, cs_locks, cs_closed, sl, s1]
    refine ⟨_, rfl, by omega, ?_⟩
    refine w_compN (fun _ _ x => ∃ m : Mv, True ∧ x = mD m) rfl (by omega) hd5.lt (fun _ _ _ _ p _ => p) ?_ ?_
    · intro i g hi F
      simp (maxDischargeDepth := 9) only [W_seq, W_asg, W_set, W_V, WV_some, W_C, W_op, W_cmpT, W_isB, W_un, W_tru, W_andT, W_orT, W_notT, W_andV, W_orV, W_notV, W_ife, W_nil, W_cons, W_tup, W_lst, W_addI, W_subI, W_iaddI, W_negI, W_mulI, W_fdivI, W_modI, W_powI, W_cmpI, W_isB_bl, W_isNB, W_isN, W_isntB, W_isntN, W_eqI, W_neI, W_pass, W_brk, W_cont, W_drop, W_rt, W_rtN, W_ifS, W_gsNil, W_gsCons, W_gTup, W_aug, W_call, W_B, RtN_rt, RtN_nx, W_abs, W_intI, W_intB, W_noPart, W_part, W_sl, W_lm, W_lm0, W_iter, W_range1, W_range2, W_forE, W_revE, W_compE, W_yes, W_lenT, W_truB, W_truI, List.append_nil, List.getElem?_cons_zero, List.getElem?_cons_succ, List.set_cons_zero, List.set_cons_succ, List.getElem?_set_self, List.getElem?_set_ne, lt_set, ne_eq, Nat.reduceEqDiff, not_false_eq_true, Nat.reduceLT, Nat.zero_ne_one, Nat.one_ne_zero, Nat.lt_add_one, Nat.zero_lt_succ, startD, List.map_cons, List.map_nil, List.length_cons, List.length_nil, List.cons_append, List.nil_append, Nat.reduceAdd, Nat.reduceSub, Nat.zero_add, List.replicate_succ, List.replicate_zero, W_inSC, List.all_cons, List.all_nil, flatD, List.any_cons, List.any_nil, eqF, Bool.and_true, Bool.or_false, Bool.or_true, Bool.true_or, Bool.false_or, Bool.true_and, Bool.false_and, Option.some.injEq, D.int.injEq, exists_eq_left', exists_eq_left, W_listT, List.set_set, lt_push, len_lt, List.getElem?_append_left, W_fldC, W_setFC, W_clsC, W_methC, W_lenC, W_ixC, W_ixTO, W_isLstC, W_appC, W_listC, W_tupC, W_truC, W_slC, W_slTT, W_addTT, W_addC, W_setIC, W_getIC, W_delC, W_isDctC, W_dgetC, W_dictC, W_dict0, W_eqS, W_neS, W_eqB, W_neB, W_meth, W_make, W_setF, W_augF, W_callK, W_chain, W_chainT, W_del, W_gSub, W_augI, W_get1, W_srcC, WCell_some, WO_some, at0, at1, at2, at3, at4, at5, ix0, ix1, at_nat, memS, lookF, putFD, String.reduceEq, String.reduceBEq, if_true, if_false, Bool.false_eq_true, Option.isNone_none, true_and, and_true, and_self, get_push, isNonD, Bool.not_true, Bool.not_false, cs_from_first, cs_own, cs_others, cs_spare, cs_locks, cs_closed, sl, s1, wipeD]
      exact draw_move_law (F.dk hd5) fun m g2 F2 _ => ⟨F2, m, trivial, rfl⟩
    · intro g xs F ex lx px
      obtain ⟨ms, rfl, _⟩ := lift_list px
      exact tail _ ms g (F.dk hd5) (by have := hd5.lt; omega) ex (by simp at lx; omega)
theorem law (ns : List Int) (_ : ns.length ≤ 63) : ∃ h', F_law [.ref 0] [.ro (ns.map D.int)] = some (.bl true, h') := by
  refine W.ex (h := [.ro (ns.map D.int)]) (m := F_law [.ref 0]) ?_
  unfold F_law B_law
  refine w_run rfl ?_
  simp only [W_seq, W_asg, W_set, W_V, WV_some, W_C, W_op, W_cmpT, W_isB, W_un, W_tru, W_andT, W_orT, W_notT, W_andV, W_orV, W_notV, W_ife, W_nil, W_cons, W_tup, W_lst, W_addI, W_subI, W_iaddI, W_negI, W_mulI, W_fdivI, W_modI, W_powI, W_cmpI, W_isB_bl, W_isNB, W_isN, W_isntB, W_isntN, W_eqI, W_neI, W_pass, W_brk, W_cont, W_drop, W_rt, W_rtN, W_ifS, W_gsNil, W_gsCons, W_gTup, W_aug, W_call, W_B, RtN_rt, RtN_nx, W_abs, W_intI, W_intB, W_noPart, W_part, W_sl, W_lm, W_lm0, W_iter, W_range1, W_range2, W_forE, W_revE, W_compE, W_yes, W_lenT, W_truB, W_truI, List.append_nil, List.getElem?_cons_zero, List.getElem?_cons_succ, List.set_cons_zero, List.set_cons_succ, List.getElem?_set_self, List.getElem?_set_ne, lt_set, ne_eq, Nat.reduceEqDiff, not_false_eq_true, Nat.reduceLT, Nat.zero_ne_one, Nat.one_ne_zero, Nat.lt_add_one, Nat.zero_lt_succ, startD, List.map_cons, List.map_nil, List.length_cons, List.length_nil, List.cons_append, List.nil_append, Nat.reduceAdd, Nat.reduceSub, Nat.zero_add, List.replicate_succ, List.replicate_zero]
  refine deck_law ns 50 14 (by decide) (by decide) _ fun h hd _ => ?_
  simp only [W_seq, W_asg, W_set, W_V, WV_some, W_C, W_op, W_cmpT, W_isB, W_un, W_tru, W_andT, W_orT, W_notT, W_andV, W_orV, W_notV, W_ife, W_nil, W_cons, W_tup, W_lst, W_addI, W_subI, W_iaddI, W_negI, W_mulI, W_fdivI, W_modI, W_powI, W_cmpI, W_isB_bl, W_isNB, W_isN, W_isntB, W_isntN, W_eqI, W_neI, W_pass, W_brk, W_cont, W_drop, W_rt, W_rtN, W_ifS, W_gsNil, W_gsCons, W_gTup, W_aug, W_call, W_B, RtN_rt, RtN_nx, W_abs, W_intI, W_intB, W_noPart, W_part, W_sl, W_lm, W_lm0, W_iter, W_range1, W_range2, W_forE, W_revE, W_compE, W_yes, W_lenT, W_truB, W_truI, List.append_nil, List.getElem?_cons_zero, List.getElem?_cons_succ, List.set_cons_zero, List.set_cons_succ, List.getElem?_set_self, List.getElem?_set_ne, lt_set, ne_eq, Nat.reduceEqDiff, not_false_eq_true, Nat.reduceLT, Nat.zero_ne_one, Nat.one_ne_zero, Nat.lt_add_one, Nat.zero_lt_succ, startD, List.map_cons, List.map_nil, List.length_cons, List.length_nil, List.cons_append, List.nil_append, Nat.reduceAdd, Nat.reduceSub, Nat.zero_add, List.replicate_succ, List.replicate_zero]
  refine ⟨_, rfl, by decide, ?_⟩
  refine w_forR (fun i σ h => σ.length = 13 ∧ σ[1]? = some (some (.ref 1)) ∧ Dk h) ⟨by simp, by simp, hd⟩ ?_ ?_
  · rintro i σ h hi ⟨sl, s1, hd⟩
    unfold Turn
    rw [W_set]
    exact turn_law (by simp [sl]) (by simp [s1]) hd fun σ' h' a b c => ⟨a, b, c⟩
  · rintro σ h ⟨sl, s1, hd⟩
    simp only [W_seq, W_asg, W_set, W_V, WV_some, W_C, W_op, W_cmpT, W_isB, W_un, W_tru, W_andT, W_orT, W_notT, W_andV, W_orV, W_notV, W_ife, W_nil, W_cons, W_tup, W_lst, W_addI, W_subI, W_iaddI, W_negI, W_mulI, W_fdivI, W_modI, W_powI, W_cmpI, W_isB_bl, W_isNB, W_isN, W_isntB, W_isntN, W_eqI, W_neI, W_pass, W_brk, W_cont, W_drop, W_rt, W_rtN, W_ifS, W_gsNil, W_gsCons, W_gTup, W_aug, W_call, W_B, RtN_rt, RtN_nx, W_abs, W_intI, W_intB, W_noPart, W_part, W_sl, W_lm, W_lm0, W_iter, W_range1, W_range2, W_forE, W_revE, W_compE, W_yes, W_lenT, W_truB, W_truI, List.append_nil, List.getElem?_cons_zero, List.getElem?_cons_succ, List.set_cons_zero, List.set_cons_succ, List.getElem?_set_self, List.getElem?_set_ne, lt_set, ne_eq, Nat.reduceEqDiff, not_false_eq_true, Nat.reduceLT, Nat.zero_ne_one, Nat.one_ne_zero, Nat.lt_add_one, Nat.zero_lt_succ, startD, List.map_cons, List.map_nil, List.length_cons, List.length_nil, List.cons_append, List.nil_append, Nat.reduceAdd, Nat.reduceSub, Nat.zero_add, List.replicate_succ, List.replicate_zero]
end Lk00

set_option Elab.async false
set_option linter.all false
set_option autoImplicit false
set_option maxRecDepth 100000
set_option maxHeartbeats 4000000
namespace Lk00
open PySem PySem.Spec PyProof.Rows L2 Dt
/-! ### the head -/
def d__law_deck : He.DefD := ⟨("_law_deck", none), "_law_deck", "_law_deck", defArgs (top 16), defBody (top 16), defScope (top 16), [], []⟩
def d__law_key : He.DefD := ⟨("_law_key", none), "_law_key", "_law_key", defArgs (top 21), defBody (top 21), defScope (top 21), [], []⟩
def d__law_secret : He.DefD := ⟨("_law_secret", none), "_law_secret", "_law_secret", defArgs (top 22), defBody (top 22), defScope (top 22), [], []⟩
def d__law_take : He.DefD := ⟨("_law_take", none), "_law_take", "_law_take", defArgs (top 17), defBody (top 17), defScope (top 17), [], []⟩
def d__law_drawn_move : He.DefD := ⟨("_law_drawn_move", none), "_law_drawn_move", "_law_drawn_move", defArgs (top 24), defBody (top 24), defScope (top 24), [], []⟩
def d__law_drawn_receipts : He.DefD := ⟨("_law_drawn_receipts", none), "_law_drawn_receipts", "_law_drawn_receipts", defArgs (top 29), defBody (top 29), defScope (top 29), [], []⟩
def d__law_pick : He.DefD := ⟨("_law_pick", none), "_law_pick", "_law_pick", defArgs (top 18), defBody (top 18), defScope (top 18), [], []⟩
def d__law_drawn_state : He.DefD := ⟨("_law_drawn_state", none), "_law_drawn_state", "_law_drawn_state", defArgs (top 23), defBody (top 23), defScope (top 23), [], []⟩
def d__law_moved : He.DefD := ⟨("_law_moved", none), "_law_moved", "_law_moved", defArgs (top 25), defBody (top 25), defScope (top 25), [], []⟩
def d__law_right_moves : He.DefD := ⟨("_law_right_moves", none), "_law_right_moves", "_law_right_moves", defArgs (top 26), defBody (top 26), defScope (top 26), [], []⟩
def d__law_plain : He.DefD := ⟨("_law_plain", none), "_law_plain", "_law_plain", defArgs (top 19), defBody (top 19), defScope (top 19), [], []⟩
def d__law_same : He.DefD := ⟨("_law_same", none), "_law_same", "_law_same", defArgs (top 20), defBody (top 20), defScope (top 20), [], []⟩
def d__law_turned_state : He.DefD := ⟨("_law_turned_state", none), "_law_turned_state", "_law_turned_state", defArgs (top 27), defBody (top 27), defScope (top 27), [], []⟩
def d__law_worth : He.DefD := ⟨("_law_worth", none), "_law_worth", "_law_worth", defArgs (top 28), defBody (top 28), defScope (top 28), [], []⟩
def d_first_proposes : He.DefD := ⟨("first_proposes", none), "first_proposes", "first_proposes", defArgs (top 7), defBody (top 7), defScope (top 7), [], []⟩
def d_was_opened : He.DefD := ⟨("was_opened", none), "was_opened", "was_opened", defArgs (top 11), defBody (top 11), defScope (top 11), [], []⟩
def d_lock_shares : He.DefD := ⟨("lock_shares", none), "lock_shares", "lock_shares", defArgs (top 12), defBody (top 12), defScope (top 12), [], []⟩
def d_Draft___init__ : He.DefD := ⟨("Draft", some "__init__"), "__init__", "Draft.__init__", defArgs (inClass (top 8) 0), defBody (inClass (top 8) 0), defScope (inClass (top 8) 0), [], []⟩
def d_Draft_as_state : He.DefD := ⟨("Draft", some "as_state"), "as_state", "Draft.as_state", defArgs (inClass (top 8) 10), defBody (inClass (top 8) 10), defScope (inClass (top 8) 10), [], []⟩
def d_Draft_lock_at : He.DefD := ⟨("Draft", some "lock_at"), "lock_at", "Draft.lock_at", defArgs (inClass (top 8) 3), defBody (inClass (top 8) 3), defScope (inClass (top 8) 3), [], []⟩
def d_Draft_drop_lock : He.DefD := ⟨("Draft", some "drop_lock"), "drop_lock", "Draft.drop_lock", defArgs (inClass (top 8) 6), defBody (inClass (top 8) 6), defScope (inClass (top 8) 6), [], []⟩
def d_Draft_finish_up : He.DefD := ⟨("Draft", some "finish_up"), "finish_up", "Draft.finish_up", defArgs (inClass (top 8) 9), defBody (inClass (top 8) 9), defScope (inClass (top 8) 9), [], []⟩
def d_Draft_can_spend : He.DefD := ⟨("Draft", some "can_spend"), "can_spend", "Draft.can_spend", defArgs (inClass (top 8) 2), defBody (inClass (top 8) 2), defScope (inClass (top 8) 2), [], []⟩
def d_Draft_hand_over : He.DefD := ⟨("Draft", some "hand_over"), "hand_over", "Draft.hand_over", defArgs (inClass (top 8) 8), defBody (inClass (top 8) 8), defScope (inClass (top 8) 8), [], []⟩
def d_Draft_put_lock : He.DefD := ⟨("Draft", some "put_lock"), "put_lock", "Draft.put_lock", defArgs (inClass (top 8) 4), defBody (inClass (top 8) 4), defScope (inClass (top 8) 4), [], []⟩
def d_Draft_take_back : He.DefD := ⟨("Draft", some "take_back"), "take_back", "Draft.take_back", defArgs (inClass (top 8) 7), defBody (inClass (top 8) 7), defScope (inClass (top 8) 7), [], []⟩
def d_key_of : He.DefD := ⟨("key_of", none), "key_of", "key_of", defArgs (top 4), defBody (top 4), defScope (top 4), [], []⟩
def d_Draft_take_paid : He.DefD := ⟨("Draft", some "take_paid"), "take_paid", "Draft.take_paid", defArgs (inClass (top 8) 5), defBody (inClass (top 8) 5), defScope (inClass (top 8) 5), [], []⟩
def d_Draft_make : He.DefD := ⟨("Draft", some "make"), "make", "Draft.make", defArgs (inClass (top 8) 1), defBody (inClass (top 8) 1), defScope (inClass (top 8) 1), [], []⟩
def d_next_state : He.DefD := ⟨("next_state", none), "next_state", "next_state", defArgs (top 9), defBody (top 9), defScope (top 9), [], []⟩
def d_worth : He.DefD := ⟨("worth", none), "worth", "worth", defArgs (top 14), defBody (top 14), defScope (top 14), [], []⟩
def d_law : He.DefD := ⟨("law", none), "law", "law", defArgs (top 30), defBody (top 30), defScope (top 30), [], []⟩
def fn : List He.DefD := [d__law_deck, d__law_key, d__law_secret, d__law_take, d__law_drawn_move, d__law_drawn_receipts, d__law_pick, d__law_drawn_state, d__law_moved, d__law_right_moves, d__law_plain, d__law_same, d__law_turned_state, d__law_worth, d_first_proposes, d_was_opened, d_lock_shares, d_Draft___init__, d_Draft_as_state, d_Draft_lock_at, d_Draft_drop_lock, d_Draft_finish_up, d_Draft_can_spend, d_Draft_hand_over, d_Draft_put_lock, d_Draft_take_back, d_key_of, d_Draft_take_paid, d_Draft_make, d_next_state, d_worth, d_law]
def fa_0 : List He.Fa := [.free "range", .free "tuple", .free "dict", .free "len", .free "int", .free "abs", .free "list", .free "isinstance", .free "bool", .free "str", .int "MOST_LOCKS" 8, .int "FACTOR" 1103515245, .int "SHIFT" 12345, .int "KEYS" 4294967296, .glo "_law_deck"]
def fa_1 : List He.Fa := [.glo "_law_key", .glo "_law_secret", .glo "_law_take", .glo "_law_drawn_move", .glo "_law_drawn_receipts", .glo "_law_pick", .glo "_law_drawn_state", .glo "_law_moved", .glo "_law_right_moves", .glo "_law_plain", .glo "_law_same", .glo "_law_turned_state", .glo "_law_worth", .glo "first_proposes", .glo "was_opened"]
def fa_2 : List He.Fa := [.glo "lock_shares", .mkr "Draft", .glo "Draft", .cls "Draft", .meth "Draft" "as_state", .meth "Draft" "lock_at", .meth "Draft" "drop_lock", .meth "Draft" "finish_up", .meth "Draft" "can_spend", .meth "Draft" "hand_over", .meth "Draft" "put_lock", .meth "Draft" "take_back", .glo "key_of", .meth "Draft" "take_paid", .meth "Draft" "make"]
def fa_3 : List He.Fa := [.glo "next_state", .glo "worth", .glo "law", .noat "Draft" "from_first", .noat "Draft" "own", .noat "Draft" "others", .noat "Draft" "spare", .noat "Draft" "locks", .noat "Draft" "closed"]
def fa : List He.Fa := fa_0 ++ (fa_1 ++ (fa_2 ++ (fa_3)))
abbrev Tz (K : PySem.W.Frag) (mg : Str → Option Value) : Prop := Tx fa fn K mg
theorem bt_abs : bootBuiltins "abs" = some (.builtin "abs") := by decide +kernel
theorem bt_bool : bootBuiltins "bool" = some (.type "bool") := by decide +kernel
theorem bt_dict : bootBuiltins "dict" = some (.type "dict") := by decide +kernel
theorem bt_int : bootBuiltins "int" = some (.type "int") := by decide +kernel
theorem bt_len : bootBuiltins "len" = some (.builtin "len") := by decide +kernel
theorem bt_list : bootBuiltins "list" = some (.type "list") := by decide +kernel
theorem bt_str : bootBuiltins "str" = some (.type "str") := by decide +kernel
theorem bt_tuple : bootBuiltins "tuple" = some (.type "tuple") := by decide +kernel
section
variable {P : Program} {w : World} {K : PySem.W.Frag} {mg : Str → Option Value} {base : Heap}
theorem clsf_from_first (T : Tz K mg) : ClsF K cs_from_first "from_first" := by
  intro c hc
  simp only [cs_from_first, List.mem_cons, List.not_mem_nil, or_false] at hc
  subst hc
  exact ⟨T.cls 33, T.noat 48⟩
theorem clsf_own (T : Tz K mg) : ClsF K cs_own "own" := by
  intro c hc
  simp only [cs_own, List.mem_cons, List.not_mem_nil, or_false] at hc
  subst hc
  exact ⟨T.cls 33, T.noat 49⟩
theorem clsf_others (T : Tz K mg) : ClsF K cs_others "others" := by
  intro c hc
  simp only [cs_others, List.mem_cons, List.not_mem_nil, or_false] at hc
  subst hc
  exact ⟨T.cls 33, T.noat 50⟩
theorem clsf_spare (T : Tz K mg) : ClsF K cs_spare "spare" := by
  intro c hc
  simp only [cs_spare, List.mem_cons, List.not_mem_nil, or_false] at hc
  subst hc
  exact ⟨T.cls 33, T.noat 51⟩
theorem clsf_locks (T : Tz K mg) : ClsF K cs_locks "locks" := by
  intro c hc
  simp only [cs_locks, List.mem_cons, List.not_mem_nil, or_false] at hc
  subst hc
  exact ⟨T.cls 33, T.noat 52⟩
theorem clsf_closed (T : Tz K mg) : ClsF K cs_closed "closed" := by
  intro c hc
  simp only [cs_closed, List.mem_cons, List.not_mem_nil, or_false] at hc
  subst hc
  exact ⟨T.cls 33, T.noat 53⟩
abbrev N__law_deck : List Str := ["script", "cells", "each", "deck", "seed", "k", "cell", "rest", "turn"]
theorem sc__law_deck : FnScope N__law_deck ["script", "cells", "each"] (defScope (top 16)) := ⟨rfl, rfl, rfl, by decide +kernel, rfl, by decide +kernel, by decide +kernel⟩
theorem ok__law_deck (T : Tz K mg) : FnG P w K mg base "_law_deck" 1 3 F__law_deck [] := by
  obtain ⟨fd, FD⟩ := T.def_ 0
  refine ⟨⟨_, fd, _, [], [], fnD FD sc__law_deck fun cdv A outer s H E hr => ?_, T.glo 14, FD.kp, FD.bindsN (ps := ["script", "cells", "each"]) fun _ _ _ _ _ _ us hl => match us, hl with | [_, _, _], _ => rfl, .nil, fun _ _ => RDs.nil⟩, runD_len⟩
  have hu := roomy (X := (cxOf CX0 P w K mg base N__law_deck _ _ _ cdv A outer s H E).nox) hr
  exact (dss_cons (ds_set 3 sc__law_deck.nd (de_lst da_nil))
  (dss_cons (ds_set 4 sc__law_deck.nd (de_op o_add de_int (de_callB c_len (by rfl) (T.free 3) bt_len (da_cons (dv 0) da_nil))))
  (dss_cons (ds_for rfl (di_range1 (by rfl) (T.free 0) (da_cons (dv 1) da_nil)) (dg_name 5 sc__law_deck.nd) (dss_cons (ds_set 6 sc__law_deck.nd (de_if (dt_cmp o_lt (dv 5) (de_callB c_len (by rfl) (T.free 3) bt_len (da_cons (dv 0) da_nil))) (de_callT c_int (by rfl) (T.free 4) bt_int (da_cons (de_ix hu (dv 0) (dv 5)) da_nil)) de_int))
  (dss_cons (ds_set 7 sc__law_deck.nd (de_op o_mul (de_callB c_abs (by rfl) (T.free 5) bt_abs (da_cons (dv 6) da_nil)) (de_callT c_int (by rfl) (T.free 4) bt_int (da_cons (de_cmp o_ge (de_callB c_abs (by rfl) (T.free 5) bt_abs (da_cons (dv 6) da_nil)) (de_op o_pow de_int de_int)) da_nil))))
  (dss_cons (ds_set 4 sc__law_deck.nd (de_op o_mod (de_callT c_int (by rfl) (T.free 4) bt_int (da_cons (de_op o_add (de_op o_add (de_op o_add (de_op o_mul (dv 4) de_int) (de_op o_mul de_int (de_op o_mod (de_callT c_int (by rfl) (T.free 4) bt_int (da_cons (de_callB c_abs (by rfl) (T.free 5) bt_abs (da_cons (dv 6) da_nil)) da_nil)) de_int))) (de_callT c_int (by rfl) (T.free 4) bt_int (da_cons (de_cmp o_lt (dv 6) de_int) da_nil))) (dv 5)) da_nil)) de_int))
  (dss_one (ds_for rfl (di_range1 (by rfl) (T.free 0) (da_cons (dv 2) da_nil)) (dg_name 8 sc__law_deck.nd) (dss_cons (ds_set 4 sc__law_deck.nd (de_op o_mod (de_callT c_int (by rfl) (T.free 4) bt_int (da_cons (de_op o_add (de_op o_add (de_op o_mul (dv 4) de_int) (dv 8)) de_int) da_nil)) de_int))
  (dss_cons (ds_expr (de_append (dv 3) (de_op o_mod (de_callT c_int (by rfl) (T.free 4) bt_int (da_cons (de_ix hu (de_lst (da_cons (de_op o_fdiv (dv 4) de_int) (da_cons (dv 7) da_nil))) (de_callT c_int (by rfl) (T.free 4) bt_int (da_cons (de_cmp o_gt (dv 7) de_int) da_nil))) da_nil)) de_int)))
  (dss_one (ds_set 7 sc__law_deck.nd (de_op o_fdiv (dv 7) de_int)))))))))))
  (dss_cons (ds_expr (de_reverse (dv 3)))
  (dss_one (ds_ret (dv 3)))))))
abbrev N__law_key : List Str := ["secret"]
theorem sc__law_key : FnScope N__law_key ["secret"] (defScope (top 21)) := ⟨rfl, rfl, rfl, by decide +kernel, rfl, by decide +kernel, by decide +kernel⟩
theorem ok__law_key (T : Tz K mg) : FnG P w K mg base "_law_key" 1 1 F__law_key [] := by
  obtain ⟨fd, FD⟩ := T.def_ 1
  refine ⟨⟨_, fd, _, [], [], fnD FD sc__law_key fun cdv A outer s H E hr => ?_, T.glo 15, FD.kp, FD.bindsN (ps := ["secret"]) fun _ _ _ _ _ _ us hl => match us, hl with | [_], _ => rfl, .nil, fun _ _ => RDs.nil⟩, runD_len⟩
  have hu := roomy (X := (cxOf CX0 P w K mg base N__law_key _ _ _ cdv A outer s H E).nox) hr
  exact (dss_one (ds_ret (de_op o_mod (de_callT c_int (by rfl) (T.free 4) bt_int (da_cons (de_op o_add (de_op o_mul (dv 0) de_int) de_int) da_nil)) de_int)))
abbrev N__law_secret : List Str := ["k"]
theorem sc__law_secret : FnScope N__law_secret ["k"] (defScope (top 22)) := ⟨rfl, rfl, rfl, by decide +kernel, rfl, by decide +kernel, by decide +kernel⟩
theorem ok__law_secret (T : Tz K mg) : FnG P w K mg base "_law_secret" 1 1 F__law_secret [] := by
  obtain ⟨fd, FD⟩ := T.def_ 2
  refine ⟨⟨_, fd, _, [], [], fnD FD sc__law_secret fun cdv A outer s H E hr => ?_, T.glo 16, FD.kp, FD.bindsN (ps := ["k"]) fun _ _ _ _ _ _ us hl => match us, hl with | [_], _ => rfl, .nil, fun _ _ => RDs.nil⟩, runD_len⟩
  have hu := roomy (X := (cxOf CX0 P w K mg base N__law_secret _ _ _ cdv A outer s H E).nox) hr
  exact (dss_one (ds_ret (de_ix hu (de_lst (da_cons de_int (da_cons de_int (da_cons de_int (da_cons de_int (da_cons de_int (da_cons de_int da_nil))))))) (dv 0))))
abbrev N__law_take : List Str := ["deck", "many"]
theorem sc__law_take : FnScope N__law_take ["deck", "many"] (defScope (top 17)) := ⟨rfl, rfl, rfl, by decide +kernel, rfl, by decide +kernel, by decide +kernel⟩
theorem ok__law_take (T : Tz K mg) : FnG P w K mg base "_law_take" 1 2 F__law_take [] := by
  obtain ⟨fd, FD⟩ := T.def_ 3
  refine ⟨⟨_, fd, _, [], [], fnD FD sc__law_take fun cdv A outer s H E hr => ?_, T.glo 17, FD.kp, FD.bindsN (ps := ["deck", "many"]) fun _ _ _ _ _ _ us hl => match us, hl with | [_, _], _ => rfl, .nil, fun _ _ => RDs.nil⟩, runD_len⟩
  have hu := roomy (X := (cxOf CX0 P w K mg base N__law_take _ _ _ cdv A outer s H E).nox) hr
  exact (dss_one (ds_ret (de_if (dt_cmp o_gt (de_callB c_len (by rfl) (T.free 3) bt_len (da_cons (dv 0) da_nil)) de_int) (de_op o_mod (de_callT c_int (by rfl) (T.free 4) bt_int (da_cons (de_pop (dv 0)) da_nil)) (dv 1)) de_int)))
abbrev N__law_drawn_move : List Str := ["deck", "kind", "place"]
theorem sc__law_drawn_move : FnScope N__law_drawn_move ["deck"] (defScope (top 24)) := ⟨rfl, rfl, rfl, by decide +kernel, rfl, by decide +kernel, by decide +kernel⟩
theorem ok__law_drawn_move (T : Tz K mg) : FnG P w K mg base "_law_drawn_move" 2 1 F__law_drawn_move [] := by
  obtain ⟨fd, FD⟩ := T.def_ 4
  refine ⟨⟨_, fd, _, [], [], fnD FD sc__law_drawn_move fun cdv A outer s H E hr => ?_, T.glo 18, FD.kp, FD.bindsN (ps := ["deck"]) fun _ _ _ _ _ _ us hl => match us, hl with | [_], _ => rfl, .nil, fun _ _ => RDs.nil⟩, runD_len⟩
  have hu := roomy (X := (cxOf CX0 P w K mg base N__law_drawn_move _ _ _ cdv A outer s H E).nox) hr
  exact (dss_cons (ds_set 1 sc__law_drawn_move.nd (cg (ok__law_take T) hr (da_cons (dv 0) (da_cons de_int da_nil))))
  (dss_cons (ds_set 2 sc__law_drawn_move.nd (cg (ok__law_take T) hr (da_cons (dv 0) (da_cons de_int da_nil))))
  (dss_cons (ds_if (dt_cmp o_lt (dv 1) de_int) (dss_one (ds_ret (de_tup (da_cons de_str (da_cons (cg (ok__law_key T) hr (da_cons (cg (ok__law_secret T) hr (da_cons (cg (ok__law_take T) hr (da_cons (dv 0) (da_cons de_int da_nil))) da_nil)) da_nil)) (da_cons (cg (ok__law_take T) hr (da_cons (dv 0) (da_cons de_int da_nil))) (da_cons (cg (ok__law_take T) hr (da_cons (dv 0) (da_cons de_int da_nil))) da_nil)))))))
  dss_nil)
  (dss_cons (ds_if (dt_cmp (o_eq hu) (dv 1) de_int) (dss_one (ds_ret (de_tup (da_cons de_str (da_cons (dv 2) (da_cons (cg (ok__law_secret T) hr (da_cons (cg (ok__law_take T) hr (da_cons (dv 0) (da_cons de_int da_nil))) da_nil)) da_nil))))))
  dss_nil)
  (dss_cons (ds_if (dt_cmp (o_eq hu) (dv 1) de_int) (dss_one (ds_ret (de_tup (da_cons de_str (da_cons (dv 2) da_nil)))))
  dss_nil)
  (dss_cons (ds_if (dt_cmp (o_eq hu) (dv 1) de_int) (dss_one (ds_ret (de_tup (da_cons de_str (da_cons (dv 2) da_nil)))))
  dss_nil)
  (dss_cons (ds_if (dt_cmp o_lt (dv 1) de_int) (dss_one (ds_ret (de_tup (da_cons de_str (da_cons (cg (ok__law_take T) hr (da_cons (dv 0) (da_cons de_int da_nil))) da_nil)))))
  dss_nil)
  (dss_one (ds_ret (de_tup (da_cons de_str da_nil)))))))))))
abbrev N__law_drawn_receipts : List Str := ["deck", "found", "turn"]
theorem sc__law_drawn_receipts : FnScope N__law_drawn_receipts ["deck"] (defScope (top 29)) := ⟨rfl, rfl, rfl, by decide +kernel, rfl, by decide +kernel, by decide +kernel⟩
theorem ok__law_drawn_receipts (T : Tz K mg) : FnG P w K mg base "_law_drawn_receipts" 2 1 F__law_drawn_receipts [] := by
  obtain ⟨fd, FD⟩ := T.def_ 5
  refine ⟨⟨_, fd, _, [], [], fnD FD sc__law_drawn_receipts fun cdv A outer s H E hr => ?_, T.glo 19, FD.kp, FD.bindsN (ps := ["deck"]) fun _ _ _ _ _ _ us hl => match us, hl with | [_], _ => rfl, .nil, fun _ _ => RDs.nil⟩, runD_len⟩
  have hu := roomy (X := (cxOf CX0 P w K mg base N__law_drawn_receipts _ _ _ cdv A outer s H E).nox) hr
  exact (dss_cons (ds_set 1 sc__law_drawn_receipts.nd de_dict0)
  (dss_cons (ds_for rfl (di_range1 (by rfl) (T.free 0) (da_cons (cg (ok__law_take T) hr (da_cons (dv 0) (da_cons de_int da_nil))) da_nil)) (dg_name 2 sc__law_drawn_receipts.nd) (dss_one (ds_asg (cg (ok__law_take T) hr (da_cons (dv 0) (da_cons de_int da_nil))) (dg_sub hu (dv 1) (cg (ok__law_key T) hr (da_cons (cg (ok__law_secret T) hr (da_cons (cg (ok__law_take T) hr (da_cons (dv 0) (da_cons de_int da_nil))) da_nil)) da_nil))))))
  (dss_one (ds_ret (dv 1)))))
abbrev N__law_pick : List Str := ["deck", "items"]
theorem sc__law_pick : FnScope N__law_pick ["deck", "items"] (defScope (top 18)) := ⟨rfl, rfl, rfl, by decide +kernel, rfl, by decide +kernel, by decide +kernel⟩
theorem ok__law_pick (T : Tz K mg) : FnG P w K mg base "_law_pick" 2 2 F__law_pick [] := by
  obtain ⟨fd, FD⟩ := T.def_ 6
  refine ⟨⟨_, fd, _, [], [], fnD FD sc__law_pick fun cdv A outer s H E hr => ?_, T.glo 20, FD.kp, FD.bindsN (ps := ["deck", "items"]) fun _ _ _ _ _ _ us hl => match us, hl with | [_, _], _ => rfl, .nil, fun _ _ => RDs.nil⟩, runD_len⟩
  have hu := roomy (X := (cxOf CX0 P w K mg base N__law_pick _ _ _ cdv A outer s H E).nox) hr
  exact (dss_one (ds_ret (de_ix hu (dv 1) (cg (ok__law_take T) hr (da_cons (dv 0) (da_cons (de_callB c_len (by rfl) (T.free 3) bt_len (da_cons (dv 1) da_nil)) da_nil))))))
abbrev N__law_drawn_state : List Str := ["deck", "locks", "turn", "key", "first"]
theorem sc__law_drawn_state : FnScope N__law_drawn_state ["deck"] (defScope (top 23)) := ⟨rfl, rfl, rfl, by decide +kernel, rfl, by decide +kernel, by decide +kernel⟩
theorem ok__law_drawn_state (T : Tz K mg) : FnG P w K mg base "_law_drawn_state" 3 1 F__law_drawn_state [] := by
  obtain ⟨fd, FD⟩ := T.def_ 7
  refine ⟨⟨_, fd, _, [], [], fnD FD sc__law_drawn_state fun cdv A outer s H E hr => ?_, T.glo 21, FD.kp, FD.bindsN (ps := ["deck"]) fun _ _ _ _ _ _ us hl => match us, hl with | [_], _ => rfl, .nil, fun _ _ => RDs.nil⟩, runD_len⟩
  have hu := roomy (X := (cxOf CX0 P w K mg base N__law_drawn_state _ _ _ cdv A outer s H E).nox) hr
  exact (dss_cons (ds_set 1 sc__law_drawn_state.nd (de_lst da_nil))
  (dss_cons (ds_for rfl (di_range1 (by rfl) (T.free 0) (da_cons (cg (ok__law_take T) hr (da_cons (dv 0) (da_cons de_int da_nil))) da_nil)) (dg_name 2 sc__law_drawn_state.nd) (dss_cons (ds_set 3 sc__law_drawn_state.nd (cg (ok__law_key T) hr (da_cons (cg (ok__law_secret T) hr (da_cons (cg (ok__law_take T) hr (da_cons (dv 0) (da_cons de_int da_nil))) da_nil)) da_nil)))
  (dss_one (ds_expr (de_append (dv 1) (de_tup (da_cons (dv 3) (da_cons (de_op o_add de_int (cg (ok__law_take T) hr (da_cons (dv 0) (da_cons de_int da_nil)))) (da_cons (cg (ok__law_take T) hr (da_cons (dv 0) (da_cons de_int da_nil))) (da_cons (de_cmp (o_eq hu) (cg (ok__law_take T) hr (da_cons (dv 0) (da_cons de_int da_nil))) de_int) da_nil))))))))))
  (dss_cons (ds_set 4 sc__law_drawn_state.nd (cg (ok__law_pick T) hr (da_cons (dv 0) (da_cons (de_lst (da_cons (cg (ok__law_take T) hr (da_cons (dv 0) (da_cons de_int da_nil))) (da_cons (de_op o_sub (cg (ok__law_take T) hr (da_cons (dv 0) (da_cons de_int da_nil))) de_int) da_nil))) da_nil))))
  (dss_one (ds_ret (de_tup (da_cons de_int (da_cons (cg (ok__law_take T) hr (da_cons (dv 0) (da_cons de_int da_nil))) (da_cons (dv 4) (da_cons (cg (ok__law_take T) hr (da_cons (dv 0) (da_cons de_int da_nil))) (da_cons (de_callT c_tuple (by rfl) (T.free 1) bt_tuple (da_cons (dv 1) da_nil)) (da_cons de_bl da_nil))))))))))))
abbrev N__law_moved : List Str := ["state", "moves", "cover", "channel", "number", "first", "second", "locks", "final", "mine", "has", "spare", "row", "closed", "move", "kind", "lock", "amount", "at", "ends"]
theorem sc__law_moved : FnScope N__law_moved ["state", "moves", "cover"] (defScope (top 25)) := ⟨rfl, rfl, rfl, by decide +kernel, rfl, by decide +kernel, by decide +kernel⟩
theorem ok__law_moved (T : Tz K mg) : FnG P w K mg base "_law_moved" 2 3 F__law_moved [] := by
  obtain ⟨fd, FD⟩ := T.def_ 8
  refine ⟨⟨_, fd, _, [], [], fnD FD sc__law_moved fun cdv A outer s H E hr => ?_, T.glo 22, FD.kp, FD.bindsN (ps := ["state", "moves", "cover"]) fun _ _ _ _ _ _ us hl => match us, hl with | [_, _, _], _ => rfl, .nil, fun _ _ => RDs.nil⟩, runD_len⟩
  have hu := roomy (X := (cxOf CX0 P w K mg base N__law_moved _ _ _ cdv A outer s H E).nox) hr
  exact (dss_cons (ds_asg (dv 0) (dg_tup rfl (dgs_cons (dg_name 3 sc__law_moved.nd) (dgs_cons (dg_name 4 sc__law_moved.nd) (dgs_cons (dg_name 5 sc__law_moved.nd) (dgs_cons (dg_name 6 sc__law_moved.nd) (dgs_cons (dg_name 7 sc__law_moved.nd) (dgs_cons (dg_name 8 sc__law_moved.nd) dgs_nil))))))))
  (dss_cons (ds_set 9 sc__law_moved.nd (de_cmp (o_eq hu) (de_op o_sub (dv 4) (de_op o_mul de_int (de_op o_fdiv (dv 4) de_int))) de_int))
  (dss_cons (ds_set 10 sc__law_moved.nd (de_if (dt_val (dv 9)) (de_lst (da_cons (dv 5) (da_cons (dv 6) da_nil))) (de_lst (da_cons (dv 6) (da_cons (dv 5) da_nil)))))
  (dss_cons (ds_set 11 sc__law_moved.nd (de_if (dt_val (dv 9)) (de_ix hu (dv 2) de_int) (de_ix hu (dv 2) de_int)))
  (dss_cons (ds_set 12 sc__law_moved.nd (de_callT c_list (by rfl) (T.free 6) bt_list (da_cons (dv 7) da_nil)))
  (dss_cons (ds_set 13 sc__law_moved.nd de_bl)
  (dss_cons (ds_for rfl (di_seq (dv 1)) (dg_name 14 sc__law_moved.nd) (dss_cons (ds_if (dt_val (dv 8)) (dss_one (ds_ret de_non))
  dss_nil)
  (dss_cons (ds_set 15 sc__law_moved.nd (de_ix hu (dv 14) de_int))
  (dss_cons (ds_set 16 sc__law_moved.nd (de_if (dt_w (dw_and (dt_cmp (o_in hu) (dv 15) (de_lst (da_cons de_str (da_cons de_str (da_cons de_str da_nil))))) (dw_and1 (dt_cmp o_lt (de_ix hu (dv 14) de_int) (de_callB c_len (by rfl) (T.free 3) bt_len (da_cons (dv 12) da_nil)))))) (de_ix hu (dv 12) (de_ix hu (dv 14) de_int)) de_non))
  (dss_one (ds_if (dt_cmp (o_in hu) (dv 15) (de_lst (da_cons de_str (da_cons de_str da_nil)))) (dss_cons (ds_set 17 sc__law_moved.nd (de_if (dt_cmp (o_eq hu) (dv 15) de_str) (de_ix hu (dv 14) de_int) (de_ix hu (dv 14) de_int)))
  (dss_cons (ds_if (dt_w (dw_or (dt_val (dv 13)) (dw_or (dt_cmp o_lt (dv 17) de_int) (dw_or (dt_cmp o_gt (dv 17) (de_op o_add (de_ix hu (dv 10) de_int) (dv 11))) (dw_or1 (dt_w (dw_and (dt_cmp (o_eq hu) (dv 15) de_str) (dw_and1 (dt_cmp o_ge (de_callB c_len (by rfl) (T.free 3) bt_len (da_cons (dv 12) da_nil)) de_int))))))))) (dss_one (ds_ret de_non))
  dss_nil)
  (dss_cons (ds_asg (de_op o_sub (de_ix hu (dv 10) de_int) (dv 17)) (dg_sub hu (dv 10) de_int))
  (dss_one (ds_if (dt_cmp (o_eq hu) (dv 15) de_str) (dss_one (ds_expr (de_append (dv 12) (de_tup (da_cons (de_ix hu (dv 14) de_int) (da_cons (dv 17) (da_cons (de_ix hu (dv 14) de_int) (da_cons (dv 9) da_nil))))))))
  (dss_one (ds_asg (de_op o_add (de_ix hu (dv 10) de_int) (dv 17)) (dg_sub hu (dv 10) de_int))))))))
  (dss_one (ds_if (dt_cmp (o_eq hu) (dv 15) de_str) (dss_cons (ds_if (dt_w (dw_or (dt_val (dv 13)) (dw_or1 (dt_cmp o_gt (de_callB c_len (by rfl) (T.free 3) bt_len (da_cons (dv 12) da_nil)) de_int)))) (dss_one (ds_ret de_non))
  dss_nil)
  (dss_one (ds_set 13 sc__law_moved.nd de_bl)))
  (dss_cons (ds_if (dt_w (dw_or (dt_cmp o_is (dv 16) de_non) (dw_or (dt_cmp (o_ne hu) (de_cmp (o_eq hu) (de_ix hu (dv 16) de_int) (dv 9)) (de_cmp (o_eq hu) (dv 15) de_str)) (dw_or1 (dt_w (dw_and (dt_cmp (o_eq hu) (dv 15) de_str) (dw_and1 (dt_cmp (o_ne hu) (cg (ok__law_key T) hr (da_cons (de_ix hu (dv 14) de_int) da_nil)) (de_ix hu (dv 16) de_int))))))))) (dss_one (ds_ret de_non))
  dss_nil)
  (dss_cons (ds_set 18 sc__law_moved.nd (de_callT c_int (by rfl) (T.free 4) bt_int (da_cons (de_cmp (o_eq hu) (dv 15) de_str) da_nil)))
  (dss_cons (ds_asg (de_op o_add (de_ix hu (dv 10) (dv 18)) (de_ix hu (dv 16) de_int)) (dg_sub hu (dv 10) (dv 18)))
  (dss_one (ds_set 12 sc__law_moved.nd (de_op o_add (de_slice (dv 12) do_none (do_some (de_ix hu (dv 14) de_int))) (de_slice (dv 12) (do_some (de_op o_add (de_ix hu (dv 14) de_int) de_int)) do_none)))))))))))))))
  (dss_cons (ds_if (dt_val (dv 8)) (dss_one (ds_ret de_non))
  dss_nil)
  (dss_cons (ds_set 19 sc__law_moved.nd (de_if (dt_val (dv 9)) (dv 10) (de_lst (da_cons (de_ix hu (dv 10) de_int) (da_cons (de_ix hu (dv 10) de_int) da_nil)))))
  (dss_one (ds_ret (de_tup (da_cons (dv 3) (da_cons (de_op o_add (dv 4) de_int) (da_cons (de_ix hu (dv 19) de_int) (da_cons (de_ix hu (dv 19) de_int) (da_cons (de_callT c_tuple (by rfl) (T.free 1) bt_tuple (da_cons (dv 12) da_nil)) (da_cons (dv 13) da_nil))))))))))))))))))
abbrev N__law_right_moves : List Str := ["deck", "state", "cover", "many", "found", "turn", "move"]
theorem sc__law_right_moves : FnScope N__law_right_moves ["deck", "state", "cover", "many"] (defScope (top 26)) := ⟨rfl, rfl, rfl, by decide +kernel, rfl, by decide +kernel, by decide +kernel⟩
theorem ok__law_right_moves (T : Tz K mg) : FnG P w K mg base "_law_right_moves" 3 4 F__law_right_moves [] := by
  obtain ⟨fd, FD⟩ := T.def_ 9
  refine ⟨⟨_, fd, _, [], [], fnD FD sc__law_right_moves fun cdv A outer s H E hr => ?_, T.glo 23, FD.kp, FD.bindsN (ps := ["deck", "state", "cover", "many"]) fun _ _ _ _ _ _ us hl => match us, hl with | [_, _, _, _], _ => rfl, .nil, fun _ _ => RDs.nil⟩, runD_len⟩
  have hu := roomy (X := (cxOf CX0 P w K mg base N__law_right_moves _ _ _ cdv A outer s H E).nox) hr
  exact (dss_cons (ds_set 4 sc__law_right_moves.nd (de_lst da_nil))
  (dss_cons (ds_for rfl (di_range1 (by rfl) (T.free 0) (da_cons (de_op o_mul de_int (dv 3)) da_nil)) (dg_name 5 sc__law_right_moves.nd) (dss_cons (ds_set 6 sc__law_right_moves.nd (cg (ok__law_drawn_move T) hr (da_cons (dv 0) da_nil)))
  (dss_one (ds_if (dt_w (dw_and (dt_cmp o_lt (de_callB c_len (by rfl) (T.free 3) bt_len (da_cons (dv 4) da_nil)) (dv 3)) (dw_and1 (dt_cmp o_isnt (cg (ok__law_moved T) hr (da_cons (dv 1) (da_cons (de_op o_add (dv 4) (de_lst (da_cons (dv 6) da_nil))) (da_cons (dv 2) da_nil)))) de_non)))) (dss_one (ds_expr (de_append (dv 4) (dv 6))))
  dss_nil))))
  (dss_one (ds_ret (dv 4)))))
abbrev N__law_plain : List Str := ["value", "item"]
theorem sc__law_plain : FnScope N__law_plain ["value"] (defScope (top 19)) := ⟨rfl, rfl, rfl, by decide +kernel, rfl, by decide +kernel, by decide +kernel⟩
theorem ok__law_plain_n (T : Tz K mg) : ∀ n : Nat, FnG P w K mg base "_law_plain" (1 + n) 1 (F__law_plain n) []
  | 0 => by
    obtain ⟨fd, FD⟩ := T.def_ 10
    have hl : LenOk 1 (F__law_plain 0) := fun ds h r e => by cases e
    refine ⟨⟨_, fd, _, [], [], (fnD (k := 0) (g := fun _ _ => none) FD sc__law_plain fun cdv A outer s H E hr => ⟨fun _ _ _ _ _ _ h => ?_⟩).imp fun vs H Q E h => ?_, T.glo 24, FD.kp, FD.bindsN (ps := ["value"]) fun _ _ _ _ _ _ us hl => match us, hl with | [_], _ => rfl, .nil, fun _ _ => RDs.nil⟩, hl⟩
    · obtain ⟨_, _, _, _, _, _, e, _⟩ := h
      cases e
    · obtain ⟨_, _, _, _, _, _, _, _, e, _⟩ := h
      cases e
  | n + 1 => by
    have ih := ok__law_plain_n T n
    obtain ⟨fd, FD⟩ := T.def_ 10
    refine ⟨⟨_, fd, _, [], [], fnD (k := 1 + n) FD sc__law_plain fun cdv A outer s H E hr => ?_, T.glo 24, FD.kp, FD.bindsN (ps := ["value"]) fun _ _ _ _ _ _ us hl => match us, hl with | [_], _ => rfl, .nil, fun _ _ => RDs.nil⟩, runD_len⟩
    have hu := roomy (X := (cxOf CX0 P w K mg base N__law_plain _ _ _ cdv A outer s H E).nox) hr
    exact (dss_cons (ds_if (dt_val (de_isi (by rfl) (T.free 7) (dv 0) (DTys.cons (dty (by rfl) (T.free 1) bt_tuple) (DTys.cons (dty (by rfl) (T.free 6) bt_list) DTys.nil rfl) rfl))) (dss_one (ds_ret (de_op o_add (de_lst (da_cons (de_isi1 (by rfl) (T.free 7) (dv 0) (dty (by rfl) (T.free 6) bt_list)) da_nil)) (de_comp rfl sc__law_plain.nd (di_seq (dv 0)) (own := [("item", 1)]) (blkOk_by (N := N__law_plain) (sc := defScope (top 19)) (by decide +kernel)) (ow := [1]) (by decide) (fun _ _ _ _ _ => (dg_name 1 sc__law_plain.nd)) (fun _ _ _ _ _ => dts_nil) (fun _ _ _ _ _ => (cg (hk := Nat.le_refl _) ih hr (da_cons (dv 1) da_nil)))))))
  dss_nil)
  (dss_cons (ds_if (dt_w (dw_or (dt_cmp o_is (dv 0) de_non) (dw_or1 (dt_val (de_isi1 (by rfl) (T.free 7) (dv 0) (dty (by rfl) (T.free 8) bt_bool)))))) (dss_one (ds_ret (de_ix hu (de_lst (da_cons de_str (da_cons de_str (da_cons de_str da_nil)))) (de_op o_add (de_callT c_int (by rfl) (T.free 4) bt_int (da_cons (de_cmp o_isnt (dv 0) de_non) da_nil)) (de_callT c_int (by rfl) (T.free 4) bt_int (da_cons (de_cmp o_is (dv 0) de_bl) da_nil))))))
  dss_nil)
  (dss_one (ds_ret (de_if (dt_val (de_isi (by rfl) (T.free 7) (dv 0) (DTys.cons (dty (by rfl) (T.free 4) bt_int) (DTys.cons (dty (by rfl) (T.free 9) bt_str) DTys.nil rfl) rfl))) (de_lst (da_cons (de_isi1 (by rfl) (T.free 7) (dv 0) (dty (by rfl) (T.free 9) bt_str)) (da_cons (dv 0) da_nil))) de_str)))))
theorem ok__law_plain (T : Tz K mg) : FnG P w K mg base "_law_plain" 13 1 (F__law_plain 12) [] := ok__law_plain_n T 12
abbrev N__law_same : List Str := ["told", "due"]
theorem sc__law_same : FnScope N__law_same ["told", "due"] (defScope (top 20)) := ⟨rfl, rfl, rfl, by decide +kernel, rfl, by decide +kernel, by decide +kernel⟩
theorem ok__law_same (T : Tz K mg) : FnG P w K mg base "_law_same" 14 2 F__law_same [] := by
  obtain ⟨fd, FD⟩ := T.def_ 11
  refine ⟨⟨_, fd, _, [], [], fnD FD sc__law_same fun cdv A outer s H E hr => ?_, T.glo 25, FD.kp, FD.bindsN (ps := ["told", "due"]) fun _ _ _ _ _ _ us hl => match us, hl with | [_, _], _ => rfl, .nil, fun _ _ => RDs.nil⟩, runD_len⟩
  have hu := roomy (X := (cxOf CX0 P w K mg base N__law_same _ _ _ cdv A outer s H E).nox) hr
  exact (dss_one (ds_ret (de_cmp (o_eq hu) (cg (ok__law_plain T) hr (da_cons (dv 0) da_nil)) (cg (ok__law_plain T) hr (da_cons (dv 1) da_nil)))))
abbrev N__law_turned_state : List Str := ["state", "locks", "key", "amount", "deadline", "mine"]
theorem sc__law_turned_state : FnScope N__law_turned_state ["state"] (defScope (top 27)) := ⟨rfl, rfl, rfl, by decide +kernel, rfl, by decide +kernel, by decide +kernel⟩
theorem ok__law_turned_state (T : Tz K mg) : FnG P w K mg base "_law_turned_state" 1 1 F__law_turned_state [] := by
  obtain ⟨fd, FD⟩ := T.def_ 12
  refine ⟨⟨_, fd, _, [], [], fnD FD sc__law_turned_state fun cdv A outer s H E hr => ?_, T.glo 26, FD.kp, FD.bindsN (ps := ["state"]) fun _ _ _ _ _ _ us hl => match us, hl with | [_], _ => rfl, .nil, fun _ _ => RDs.nil⟩, runD_len⟩
  have hu := roomy (X := (cxOf CX0 P w K mg base N__law_turned_state _ _ _ cdv A outer s H E).nox) hr
  exact (dss_cons (ds_set 1 sc__law_turned_state.nd (de_callT c_tuple (by rfl) (T.free 1) bt_tuple (da_cons (de_comp rfl sc__law_turned_state.nd (di_seq (de_ix hu (dv 0) de_int)) (own := [("key", 2), ("amount", 3), ("deadline", 4), ("mine", 5)]) (blkOk_by (N := N__law_turned_state) (sc := defScope (top 27)) (by decide +kernel)) (ow := ([2] ++ ([3] ++ ([4] ++ ([5] ++ []))))) (by decide) (fun _ _ _ _ _ => (dg_tup rfl (dgs_cons (dg_name 2 sc__law_turned_state.nd) (dgs_cons (dg_name 3 sc__law_turned_state.nd) (dgs_cons (dg_name 4 sc__law_turned_state.nd) (dgs_cons (dg_name 5 sc__law_turned_state.nd) dgs_nil)))))) (fun _ _ _ _ _ => dts_nil) (fun _ _ _ _ _ => (de_tup (da_cons (dv 2) (da_cons (dv 3) (da_cons (dv 4) (da_cons (de_not (dv 5)) da_nil))))))) da_nil)))
  (dss_one (ds_ret (de_tup (da_cons (de_ix hu (dv 0) de_int) (da_cons (de_op o_add (de_ix hu (dv 0) de_int) de_int) (da_cons (de_ix hu (dv 0) de_int) (da_cons (de_ix hu (dv 0) de_int) (da_cons (dv 1) (da_cons (de_ix hu (dv 0) de_int) da_nil))))))))))
abbrev N__law_worth : List Str := ["state", "receipts", "ends", "key", "amount", "deadline", "mine", "opened"]
theorem sc__law_worth : FnScope N__law_worth ["state", "receipts"] (defScope (top 28)) := ⟨rfl, rfl, rfl, by decide +kernel, rfl, by decide +kernel, by decide +kernel⟩
theorem ok__law_worth (T : Tz K mg) : FnG P w K mg base "_law_worth" 1 2 F__law_worth [] := by
  obtain ⟨fd, FD⟩ := T.def_ 13
  refine ⟨⟨_, fd, _, [], [], fnD FD sc__law_worth fun cdv A outer s H E hr => ?_, T.glo 27, FD.kp, FD.bindsN (ps := ["state", "receipts"]) fun _ _ _ _ _ _ us hl => match us, hl with | [_, _], _ => rfl, .nil, fun _ _ => RDs.nil⟩, runD_len⟩
  have hu := roomy (X := (cxOf CX0 P w K mg base N__law_worth _ _ _ cdv A outer s H E).nox) hr
  exact (dss_cons (ds_set 2 sc__law_worth.nd (de_lst (da_cons (de_ix hu (dv 0) de_int) (da_cons (de_ix hu (dv 0) de_int) da_nil))))
  (dss_cons (ds_for rfl (di_seq (de_ix hu (dv 0) de_int)) (dg_tup rfl (dgs_cons (dg_name 3 sc__law_worth.nd) (dgs_cons (dg_name 4 sc__law_worth.nd) (dgs_cons (dg_name 5 sc__law_worth.nd) (dgs_cons (dg_name 6 sc__law_worth.nd) dgs_nil))))) (dss_cons (ds_set 7 sc__law_worth.nd (de_and (de_cmp (o_in hu) (dv 3) (dv 1)) (de_and1 (de_cmp o_le (de_ix hu (dv 1) (dv 3)) (dv 5)))))
  (dss_one (ds_augi hu (dv 2) (de_callT c_int (by rfl) (T.free 4) bt_int (da_cons (de_cmp (o_eq hu) (dv 7) (dv 6)) da_nil)) (dv 4) io_add))))
  (dss_one (ds_ret (de_tup (da_cons (de_ix hu (dv 2) de_int) (da_cons (de_ix hu (dv 2) de_int) da_nil)))))))
abbrev N_first_proposes : List Str := ["number"]
theorem sc_first_proposes : FnScope N_first_proposes ["number"] (defScope (top 7)) := ⟨rfl, rfl, rfl, by decide +kernel, rfl, by decide +kernel, by decide +kernel⟩
theorem ok_first_proposes (T : Tz K mg) : FnG P w K mg base "first_proposes" 1 1 F_first_proposes [] := by
  obtain ⟨fd, FD⟩ := T.def_ 14
  refine ⟨⟨_, fd, _, [], [], fnD FD sc_first_proposes fun cdv A outer s H E hr => ?_, T.glo 28, FD.kp, FD.bindsN (ps := ["number"]) fun _ _ _ _ _ _ us hl => match us, hl with | [_], _ => rfl, .nil, fun _ _ => RDs.nil⟩, runD_len⟩
  have hu := roomy (X := (cxOf CX0 P w K mg base N_first_proposes _ _ _ cdv A outer s H E).nox) hr
  exact (dss_one (ds_ret (de_cmp (o_eq hu) (de_op o_mod (dv 0) de_int) de_int)))
abbrev N_was_opened : List Str := ["lock", "receipts", "height"]
theorem sc_was_opened : FnScope N_was_opened ["lock", "receipts"] (defScope (top 11)) := ⟨rfl, rfl, rfl, by decide +kernel, rfl, by decide +kernel, by decide +kernel⟩
theorem ok_was_opened (T : Tz K mg) : FnG P w K mg base "was_opened" 1 2 F_was_opened [] := by
  obtain ⟨fd, FD⟩ := T.def_ 15
  refine ⟨⟨_, fd, _, [], [], fnD FD sc_was_opened fun cdv A outer s H E hr => ?_, T.glo 29, FD.kp, FD.bindsN (ps := ["lock", "receipts"]) fun _ _ _ _ _ _ us hl => match us, hl with | [_, _], _ => rfl, .nil, fun _ _ => RDs.nil⟩, runD_len⟩
  have hu := roomy (X := (cxOf CX0 P w K mg base N_was_opened _ _ _ cdv A outer s H E).nox) hr
  exact (dss_cons (ds_set 2 sc_was_opened.nd (de_get1 hu (dv 1) (de_ix hu (dv 0) de_int)))
  (dss_one (ds_ret (de_and (de_cmp o_isnt (dv 2) de_non) (de_and1 (de_cmp o_le (dv 2) (de_ix hu (dv 0) de_int)))))))
abbrev N_lock_shares : List Str := ["locks", "receipts", "first", "second", "lock"]
theorem sc_lock_shares : FnScope N_lock_shares ["locks", "receipts"] (defScope (top 12)) := ⟨rfl, rfl, rfl, by decide +kernel, rfl, by decide +kernel, by decide +kernel⟩
theorem ok_lock_shares (T : Tz K mg) : FnG P w K mg base "lock_shares" 2 2 F_lock_shares [] := by
  obtain ⟨fd, FD⟩ := T.def_ 16
  refine ⟨⟨_, fd, _, [], [], fnD FD sc_lock_shares fun cdv A outer s H E hr => ?_, T.glo 30, FD.kp, FD.bindsN (ps := ["locks", "receipts"]) fun _ _ _ _ _ _ us hl => match us, hl with | [_, _], _ => rfl, .nil, fun _ _ => RDs.nil⟩, runD_len⟩
  have hu := roomy (X := (cxOf CX0 P w K mg base N_lock_shares _ _ _ cdv A outer s H E).nox) hr
  exact (dss_cons (ds_set 2 sc_lock_shares.nd de_int)
  (dss_cons (ds_set 3 sc_lock_shares.nd de_int)
  (dss_cons (ds_for rfl (di_seq (dv 0)) (dg_name 4 sc_lock_shares.nd) (dss_one (ds_if (dt_cmp (o_eq hu) (cg (ok_was_opened T) hr (da_cons (dv 4) (da_cons (dv 1) da_nil))) (de_ix hu (dv 4) de_int)) (dss_one (ds_aug 3 sc_lock_shares.nd (de_ix hu (dv 4) de_int) io_add))
  (dss_one (ds_aug 2 sc_lock_shares.nd (de_ix hu (dv 4) de_int) io_add)))))
  (dss_one (ds_ret (de_tup (da_cons (dv 2) (da_cons (dv 3) da_nil))))))))
abbrev N_Draft___init__ : List Str := ["self", "state", "cover"]
theorem sc_Draft___init__ : FnScope N_Draft___init__ ["self", "state", "cover"] (defScope (inClass (top 8) 0)) := ⟨rfl, rfl, rfl, by decide +kernel, rfl, by decide +kernel, by decide +kernel⟩
theorem mk_Draft (T : Tz K mg) : FnI P w K mg base "Draft" 2 3 F_Draft___init__ [] := by
  obtain ⟨fd, FD⟩ := T.def_ 17
  refine ⟨⟨_, fd, _, [], [], fnD FD sc_Draft___init__ fun cdv A outer s H E hr => ?_, T.mkr 31, T.glo 32, FD.bindsN (ps := ["self", "state", "cover"]) fun _ _ _ _ _ _ us hl => match us, hl with | [_, _, _], _ => rfl, .nil, fun _ _ => RDs.nil⟩, runD_len⟩
  have hu := roomy (X := (cxOf CX0 P w K mg base N_Draft___init__ _ _ _ cdv A outer s H E).nox) hr
  exact (dss_cons (ds_fld (clsf_from_first T) (dv 0) (cg (ok_first_proposes T) hr (da_cons (de_op o_add (de_ix hu (dv 1) de_int) de_int) da_nil)))
  (dss_cons (ds_if (dt_val (de_fld (clsf_from_first T) (dv 0))) (dss_cons (ds_fld (clsf_own T) (dv 0) (de_ix hu (dv 1) de_int))
  (dss_cons (ds_fld (clsf_others T) (dv 0) (de_ix hu (dv 1) de_int))
  (dss_one (ds_fld (clsf_spare T) (dv 0) (de_ix hu (dv 2) de_int)))))
  (dss_cons (ds_fld (clsf_own T) (dv 0) (de_ix hu (dv 1) de_int))
  (dss_cons (ds_fld (clsf_others T) (dv 0) (de_ix hu (dv 1) de_int))
  (dss_one (ds_fld (clsf_spare T) (dv 0) (de_ix hu (dv 2) de_int))))))
  (dss_cons (ds_fld (clsf_locks T) (dv 0) (de_callT c_list (by rfl) (T.free 6) bt_list (da_cons (de_ix hu (dv 1) de_int) da_nil)))
  (dss_one (ds_fld (clsf_closed T) (dv 0) de_bl)))))
abbrev N_Draft_as_state : List Str := ["self", "channel", "number"]
theorem sc_Draft_as_state : FnScope N_Draft_as_state ["self", "channel", "number"] (defScope (inClass (top 8) 10)) := ⟨rfl, rfl, rfl, by decide +kernel, rfl, by decide +kernel, by decide +kernel⟩
theorem ok_Draft_as_state (T : Tz K mg) : FnM P w K mg base "Draft" "as_state" 1 3 F_Draft_as_state [] := by
  obtain ⟨fd, FD⟩ := T.def_ 18
  refine ⟨⟨_, fd, _, [], [], fnD FD sc_Draft_as_state fun cdv A outer s H E hr => ?_, T.meth 34, FD.bindsN (ps := ["self", "channel", "number"]) fun _ _ _ _ _ _ us hl => match us, hl with | [_, _, _], _ => rfl, .nil, fun _ _ => RDs.nil⟩, T.cls 33, runD_len⟩
  have hu := roomy (X := (cxOf CX0 P w K mg base N_Draft_as_state _ _ _ cdv A outer s H E).nox) hr
  exact (dss_cons (ds_if (dt_val (de_fld (clsf_from_first T) (dv 0))) (dss_one (ds_ret (de_tup (da_cons (dv 1) (da_cons (dv 2) (da_cons (de_fld (clsf_own T) (dv 0)) (da_cons (de_fld (clsf_others T) (dv 0)) (da_cons (de_callT c_tuple (by rfl) (T.free 1) bt_tuple (da_cons (de_fld (clsf_locks T) (dv 0)) da_nil)) (da_cons (de_fld (clsf_closed T) (dv 0)) da_nil)))))))))
  dss_nil)
  (dss_one (ds_ret (de_tup (da_cons (dv 1) (da_cons (dv 2) (da_cons (de_fld (clsf_others T) (dv 0)) (da_cons (de_fld (clsf_own T) (dv 0)) (da_cons (de_callT c_tuple (by rfl) (T.free 1) bt_tuple (da_cons (de_fld (clsf_locks T) (dv 0)) da_nil)) (da_cons (de_fld (clsf_closed T) (dv 0)) da_nil))))))))))
abbrev N_Draft_lock_at : List Str := ["self", "place"]
theorem sc_Draft_lock_at : FnScope N_Draft_lock_at ["self", "place"] (defScope (inClass (top 8) 3)) := ⟨rfl, rfl, rfl, by decide +kernel, rfl, by decide +kernel, by decide +kernel⟩
theorem ok_Draft_lock_at (T : Tz K mg) : FnM P w K mg base "Draft" "lock_at" 1 2 F_Draft_lock_at [] := by
  obtain ⟨fd, FD⟩ := T.def_ 19
  refine ⟨⟨_, fd, _, [], [], fnD FD sc_Draft_lock_at fun cdv A outer s H E hr => ?_, T.meth 35, FD.bindsN (ps := ["self", "place"]) fun _ _ _ _ _ _ us hl => match us, hl with | [_, _], _ => rfl, .nil, fun _ _ => RDs.nil⟩, T.cls 33, runD_len⟩
  have hu := roomy (X := (cxOf CX0 P w K mg base N_Draft_lock_at _ _ _ cdv A outer s H E).nox) hr
  exact (dss_cons (ds_if (dt_chain o_le o_lt de_int (dv 1) (de_callB c_len (by rfl) (T.free 3) bt_len (da_cons (de_fld (clsf_locks T) (dv 0)) da_nil))) (dss_one (ds_ret (de_ix hu (de_fld (clsf_locks T) (dv 0)) (dv 1))))
  dss_nil)
  (dss_one (ds_ret de_non)))
abbrev N_Draft_drop_lock : List Str := ["self", "place", "lock"]
theorem sc_Draft_drop_lock : FnScope N_Draft_drop_lock ["self", "place"] (defScope (inClass (top 8) 6)) := ⟨rfl, rfl, rfl, by decide +kernel, rfl, by decide +kernel, by decide +kernel⟩
theorem ok_Draft_drop_lock (T : Tz K mg) : FnM P w K mg base "Draft" "drop_lock" 2 2 F_Draft_drop_lock [] := by
  obtain ⟨fd, FD⟩ := T.def_ 20
  refine ⟨⟨_, fd, _, [], [], fnD FD sc_Draft_drop_lock fun cdv A outer s H E hr => ?_, T.meth 36, FD.bindsN (ps := ["self", "place"]) fun _ _ _ _ _ _ us hl => match us, hl with | [_, _], _ => rfl, .nil, fun _ _ => RDs.nil⟩, T.cls 33, runD_len⟩
  have hu := roomy (X := (cxOf CX0 P w K mg base N_Draft_drop_lock _ _ _ cdv A outer s H E).nox) hr
  exact (dss_cons (ds_set 2 sc_Draft_drop_lock.nd (cm (ok_Draft_lock_at T) hr (dv 0) (da_cons (dv 1) da_nil)))
  (dss_cons (ds_if (dt_w (dw_or (dt_cmp o_is (dv 2) de_non) (dw_or1 (dt_cmp (o_eq hu) (de_ix hu (dv 2) de_int) (de_fld (clsf_from_first T) (dv 0)))))) (dss_one (ds_ret de_bl))
  dss_nil)
  (dss_cons (ds_del (de_fld (clsf_locks T) (dv 0)) (dv 1))
  (dss_cons (ds_fldaug (clsf_others T) (dv 0) (de_ix hu (dv 2) de_int) io_add)
  (dss_one (ds_ret de_bl))))))
abbrev N_Draft_finish_up : List Str := ["self"]
theorem sc_Draft_finish_up : FnScope N_Draft_finish_up ["self"] (defScope (inClass (top 8) 9)) := ⟨rfl, rfl, rfl, by decide +kernel, rfl, by decide +kernel, by decide +kernel⟩
theorem ok_Draft_finish_up (T : Tz K mg) : FnM P w K mg base "Draft" "finish_up" 1 1 F_Draft_finish_up [] := by
  obtain ⟨fd, FD⟩ := T.def_ 21
  refine ⟨⟨_, fd, _, [], [], fnD FD sc_Draft_finish_up fun cdv A outer s H E hr => ?_, T.meth 37, FD.bindsN (ps := ["self"]) fun _ _ _ _ _ _ us hl => match us, hl with | [_], _ => rfl, .nil, fun _ _ => RDs.nil⟩, T.cls 33, runD_len⟩
  have hu := roomy (X := (cxOf CX0 P w K mg base N_Draft_finish_up _ _ _ cdv A outer s H E).nox) hr
  exact (dss_cons (ds_if (dt_w (dw_or (dt_val (de_fld (clsf_closed T) (dv 0))) (dw_or1 (dt_val (de_fld (clsf_locks T) (dv 0)))))) (dss_one (ds_ret de_bl))
  dss_nil)
  (dss_cons (ds_fld (clsf_closed T) (dv 0) de_bl)
  (dss_one (ds_ret de_bl))))
abbrev N_Draft_can_spend : List Str := ["self", "amount"]
theorem sc_Draft_can_spend : FnScope N_Draft_can_spend ["self", "amount"] (defScope (inClass (top 8) 2)) := ⟨rfl, rfl, rfl, by decide +kernel, rfl, by decide +kernel, by decide +kernel⟩
theorem ok_Draft_can_spend (T : Tz K mg) : FnM P w K mg base "Draft" "can_spend" 1 2 F_Draft_can_spend [] := by
  obtain ⟨fd, FD⟩ := T.def_ 22
  refine ⟨⟨_, fd, _, [], [], fnD FD sc_Draft_can_spend fun cdv A outer s H E hr => ?_, T.meth 38, FD.bindsN (ps := ["self", "amount"]) fun _ _ _ _ _ _ us hl => match us, hl with | [_, _], _ => rfl, .nil, fun _ _ => RDs.nil⟩, T.cls 33, runD_len⟩
  have hu := roomy (X := (cxOf CX0 P w K mg base N_Draft_can_spend _ _ _ cdv A outer s H E).nox) hr
  exact (dss_one (ds_ret (de_and (de_not (de_fld (clsf_closed T) (dv 0))) (de_and1 (de_chain o_le o_le de_int (dv 1) (de_op o_add (de_fld (clsf_own T) (dv 0)) (de_fld (clsf_spare T) (dv 0))))))))
abbrev N_Draft_hand_over : List Str := ["self", "amount"]
theorem sc_Draft_hand_over : FnScope N_Draft_hand_over ["self", "amount"] (defScope (inClass (top 8) 8)) := ⟨rfl, rfl, rfl, by decide +kernel, rfl, by decide +kernel, by decide +kernel⟩
theorem ok_Draft_hand_over (T : Tz K mg) : FnM P w K mg base "Draft" "hand_over" 2 2 F_Draft_hand_over [] := by
  obtain ⟨fd, FD⟩ := T.def_ 23
  refine ⟨⟨_, fd, _, [], [], fnD FD sc_Draft_hand_over fun cdv A outer s H E hr => ?_, T.meth 39, FD.bindsN (ps := ["self", "amount"]) fun _ _ _ _ _ _ us hl => match us, hl with | [_, _], _ => rfl, .nil, fun _ _ => RDs.nil⟩, T.cls 33, runD_len⟩
  have hu := roomy (X := (cxOf CX0 P w K mg base N_Draft_hand_over _ _ _ cdv A outer s H E).nox) hr
  exact (dss_cons (ds_if (dt_not (dt_val (cm (ok_Draft_can_spend T) hr (dv 0) (da_cons (dv 1) da_nil)))) (dss_one (ds_ret de_bl))
  dss_nil)
  (dss_cons (ds_fldaug (clsf_own T) (dv 0) (dv 1) io_sub)
  (dss_cons (ds_fldaug (clsf_others T) (dv 0) (dv 1) io_add)
  (dss_one (ds_ret de_bl)))))
abbrev N_Draft_put_lock : List Str := ["self", "key", "amount", "deadline"]
theorem sc_Draft_put_lock : FnScope N_Draft_put_lock ["self", "key", "amount", "deadline"] (defScope (inClass (top 8) 4)) := ⟨rfl, rfl, rfl, by decide +kernel, rfl, by decide +kernel, by decide +kernel⟩
theorem ok_Draft_put_lock (T : Tz K mg) : FnM P w K mg base "Draft" "put_lock" 2 4 F_Draft_put_lock [] := by
  obtain ⟨fd, FD⟩ := T.def_ 24
  refine ⟨⟨_, fd, _, [], [], fnD FD sc_Draft_put_lock fun cdv A outer s H E hr => ?_, T.meth 40, FD.bindsN (ps := ["self", "key", "amount", "deadline"]) fun _ _ _ _ _ _ us hl => match us, hl with | [_, _, _, _], _ => rfl, .nil, fun _ _ => RDs.nil⟩, T.cls 33, runD_len⟩
  have hu := roomy (X := (cxOf CX0 P w K mg base N_Draft_put_lock _ _ _ cdv A outer s H E).nox) hr
  exact (dss_cons (ds_if (dt_w (dw_or (dt_not (dt_val (cm (ok_Draft_can_spend T) hr (dv 0) (da_cons (dv 2) da_nil)))) (dw_or1 (dt_cmp o_ge (de_callB c_len (by rfl) (T.free 3) bt_len (da_cons (de_fld (clsf_locks T) (dv 0)) da_nil)) (de_gint (by rfl) (T.int 10)))))) (dss_one (ds_ret de_bl))
  dss_nil)
  (dss_cons (ds_fldaug (clsf_own T) (dv 0) (dv 2) io_sub)
  (dss_cons (ds_expr (de_append (de_fld (clsf_locks T) (dv 0)) (de_tup (da_cons (dv 1) (da_cons (dv 2) (da_cons (dv 3) (da_cons (de_fld (clsf_from_first T) (dv 0)) da_nil)))))))
  (dss_one (ds_ret de_bl)))))
abbrev N_Draft_take_back : List Str := ["self", "place", "lock"]
theorem sc_Draft_take_back : FnScope N_Draft_take_back ["self", "place"] (defScope (inClass (top 8) 7)) := ⟨rfl, rfl, rfl, by decide +kernel, rfl, by decide +kernel, by decide +kernel⟩
theorem ok_Draft_take_back (T : Tz K mg) : FnM P w K mg base "Draft" "take_back" 2 2 F_Draft_take_back [] := by
  obtain ⟨fd, FD⟩ := T.def_ 25
  refine ⟨⟨_, fd, _, [], [], fnD FD sc_Draft_take_back fun cdv A outer s H E hr => ?_, T.meth 41, FD.bindsN (ps := ["self", "place"]) fun _ _ _ _ _ _ us hl => match us, hl with | [_, _], _ => rfl, .nil, fun _ _ => RDs.nil⟩, T.cls 33, runD_len⟩
  have hu := roomy (X := (cxOf CX0 P w K mg base N_Draft_take_back _ _ _ cdv A outer s H E).nox) hr
  exact (dss_cons (ds_set 2 sc_Draft_take_back.nd (cm (ok_Draft_lock_at T) hr (dv 0) (da_cons (dv 1) da_nil)))
  (dss_cons (ds_if (dt_w (dw_or (dt_cmp o_is (dv 2) de_non) (dw_or1 (dt_cmp (o_ne hu) (de_ix hu (dv 2) de_int) (de_fld (clsf_from_first T) (dv 0)))))) (dss_one (ds_ret de_bl))
  dss_nil)
  (dss_cons (ds_del (de_fld (clsf_locks T) (dv 0)) (dv 1))
  (dss_cons (ds_fldaug (clsf_own T) (dv 0) (de_ix hu (dv 2) de_int) io_add)
  (dss_one (ds_ret de_bl))))))
abbrev N_key_of : List Str := ["secret"]
theorem sc_key_of : FnScope N_key_of ["secret"] (defScope (top 4)) := ⟨rfl, rfl, rfl, by decide +kernel, rfl, by decide +kernel, by decide +kernel⟩
theorem ok_key_of (T : Tz K mg) : FnG P w K mg base "key_of" 1 1 F_key_of [] := by
  obtain ⟨fd, FD⟩ := T.def_ 26
  refine ⟨⟨_, fd, _, [], [], fnD FD sc_key_of fun cdv A outer s H E hr => ?_, T.glo 42, FD.kp, FD.bindsN (ps := ["secret"]) fun _ _ _ _ _ _ us hl => match us, hl with | [_], _ => rfl, .nil, fun _ _ => RDs.nil⟩, runD_len⟩
  have hu := roomy (X := (cxOf CX0 P w K mg base N_key_of _ _ _ cdv A outer s H E).nox) hr
  exact (dss_one (ds_ret (de_op o_mod (de_op o_add (de_op o_mul (dv 0) (de_gint (by rfl) (T.int 11))) (de_gint (by rfl) (T.int 12))) (de_gint (by rfl) (T.int 13)))))
abbrev N_Draft_take_paid : List Str := ["self", "place", "secret", "lock"]
theorem sc_Draft_take_paid : FnScope N_Draft_take_paid ["self", "place", "secret"] (defScope (inClass (top 8) 5)) := ⟨rfl, rfl, rfl, by decide +kernel, rfl, by decide +kernel, by decide +kernel⟩
theorem ok_Draft_take_paid (T : Tz K mg) : FnM P w K mg base "Draft" "take_paid" 2 3 F_Draft_take_paid [] := by
  obtain ⟨fd, FD⟩ := T.def_ 27
  refine ⟨⟨_, fd, _, [], [], fnD FD sc_Draft_take_paid fun cdv A outer s H E hr => ?_, T.meth 43, FD.bindsN (ps := ["self", "place", "secret"]) fun _ _ _ _ _ _ us hl => match us, hl with | [_, _, _], _ => rfl, .nil, fun _ _ => RDs.nil⟩, T.cls 33, runD_len⟩
  have hu := roomy (X := (cxOf CX0 P w K mg base N_Draft_take_paid _ _ _ cdv A outer s H E).nox) hr
  exact (dss_cons (ds_set 3 sc_Draft_take_paid.nd (cm (ok_Draft_lock_at T) hr (dv 0) (da_cons (dv 1) da_nil)))
  (dss_cons (ds_if (dt_w (dw_or (dt_cmp o_is (dv 3) de_non) (dw_or (dt_cmp (o_eq hu) (de_ix hu (dv 3) de_int) (de_fld (clsf_from_first T) (dv 0))) (dw_or1 (dt_cmp (o_ne hu) (de_ix hu (dv 3) de_int) (cg (ok_key_of T) hr (da_cons (dv 2) da_nil))))))) (dss_one (ds_ret de_bl))
  dss_nil)
  (dss_cons (ds_del (de_fld (clsf_locks T) (dv 0)) (dv 1))
  (dss_cons (ds_fldaug (clsf_own T) (dv 0) (de_ix hu (dv 3) de_int) io_add)
  (dss_one (ds_ret de_bl))))))
abbrev N_Draft_make : List Str := ["self", "move", "kind"]
theorem sc_Draft_make : FnScope N_Draft_make ["self", "move"] (defScope (inClass (top 8) 1)) := ⟨rfl, rfl, rfl, by decide +kernel, rfl, by decide +kernel, by decide +kernel⟩
theorem ok_Draft_make (T : Tz K mg) : FnM P w K mg base "Draft" "make" 3 2 F_Draft_make [] := by
  obtain ⟨fd, FD⟩ := T.def_ 28
  refine ⟨⟨_, fd, _, [], [], fnD FD sc_Draft_make fun cdv A outer s H E hr => ?_, T.meth 44, FD.bindsN (ps := ["self", "move"]) fun _ _ _ _ _ _ us hl => match us, hl with | [_, _], _ => rfl, .nil, fun _ _ => RDs.nil⟩, T.cls 33, runD_len⟩
  have hu := roomy (X := (cxOf CX0 P w K mg base N_Draft_make _ _ _ cdv A outer s H E).nox) hr
  exact (dss_cons (ds_set 2 sc_Draft_make.nd (de_ix hu (dv 1) de_int))
  (dss_cons (ds_if (dt_cmp (o_eq hu) (dv 2) de_str) (dss_one (ds_ret (cm (ok_Draft_put_lock T) hr (dv 0) (da_cons (de_ix hu (dv 1) de_int) (da_cons (de_ix hu (dv 1) de_int) (da_cons (de_ix hu (dv 1) de_int) da_nil))))))
  dss_nil)
  (dss_cons (ds_if (dt_cmp (o_eq hu) (dv 2) de_str) (dss_one (ds_ret (cm (ok_Draft_take_paid T) hr (dv 0) (da_cons (de_ix hu (dv 1) de_int) (da_cons (de_ix hu (dv 1) de_int) da_nil)))))
  dss_nil)
  (dss_cons (ds_if (dt_cmp (o_eq hu) (dv 2) de_str) (dss_one (ds_ret (cm (ok_Draft_drop_lock T) hr (dv 0) (da_cons (de_ix hu (dv 1) de_int) da_nil))))
  dss_nil)
  (dss_cons (ds_if (dt_cmp (o_eq hu) (dv 2) de_str) (dss_one (ds_ret (cm (ok_Draft_take_back T) hr (dv 0) (da_cons (de_ix hu (dv 1) de_int) da_nil))))
  dss_nil)
  (dss_cons (ds_if (dt_cmp (o_eq hu) (dv 2) de_str) (dss_one (ds_ret (cm (ok_Draft_hand_over T) hr (dv 0) (da_cons (de_ix hu (dv 1) de_int) da_nil))))
  dss_nil)
  (dss_one (ds_ret (cm0 (ok_Draft_finish_up T) hr (dv 0))))))))))
abbrev N_next_state : List Str := ["state", "moves", "cover", "draft", "move"]
theorem sc_next_state : FnScope N_next_state ["state", "moves", "cover"] (defScope (top 9)) := ⟨rfl, rfl, rfl, by decide +kernel, rfl, by decide +kernel, by decide +kernel⟩
theorem okK_next_state_0 (T : Tz K mg) : FnK P w K mg base "next_state" 4 2 ["cover"] F_next_state := by
  obtain ⟨fd, FD⟩ := T.def_ 29
  refine ⟨⟨_, fd, _, fnD FD sc_next_state fun cdv A outer s H E hr => ?_, T.glo 45, FD.kp, FunD_bindsK FD 2 ["cover"] fun _ _ _ _ _ _ us ws hu hw => match us, hu, ws, hw with | [_, _], _, [_], _ => rfl⟩⟩
  have hu := roomy (X := (cxOf CX0 P w K mg base N_next_state _ _ _ cdv A outer s H E).nox) hr
  exact (dss_cons (ds_if (dt_val (de_ix hu (dv 0) de_int)) (dss_one (ds_ret de_non))
  dss_nil)
  (dss_cons (ds_set 3 sc_next_state.nd (ci (mk_Draft T) hr (da_cons (dv 0) (da_cons (dv 2) da_nil))))
  (dss_cons (ds_for rfl (di_seq (dv 1)) (dg_name 4 sc_next_state.nd) (dss_one (ds_if (dt_not (dt_val (cm (ok_Draft_make T) hr (dv 3) (da_cons (dv 4) da_nil)))) (dss_one (ds_ret de_non))
  dss_nil)))
  (dss_one (ds_ret (cm (ok_Draft_as_state T) hr (dv 3) (da_cons (de_ix hu (dv 0) de_int) (da_cons (de_op o_add (de_ix hu (dv 0) de_int) de_int) da_nil))))))))
abbrev N_worth : List Str := ["state", "receipts", "shares"]
theorem sc_worth : FnScope N_worth ["state", "receipts"] (defScope (top 14)) := ⟨rfl, rfl, rfl, by decide +kernel, rfl, by decide +kernel, by decide +kernel⟩
theorem ok_worth (T : Tz K mg) : FnG P w K mg base "worth" 3 2 F_worth [] := by
  obtain ⟨fd, FD⟩ := T.def_ 30
  refine ⟨⟨_, fd, _, [], [], fnD FD sc_worth fun cdv A outer s H E hr => ?_, T.glo 46, FD.kp, FD.bindsN (ps := ["state", "receipts"]) fun _ _ _ _ _ _ us hl => match us, hl with | [_, _], _ => rfl, .nil, fun _ _ => RDs.nil⟩, runD_len⟩
  have hu := roomy (X := (cxOf CX0 P w K mg base N_worth _ _ _ cdv A outer s H E).nox) hr
  exact (dss_cons (ds_set 2 sc_worth.nd (cg (ok_lock_shares T) hr (da_cons (de_ix hu (dv 0) de_int) (da_cons (dv 1) da_nil))))
  (dss_one (ds_ret (de_tup (da_cons (de_op o_add (de_ix hu (dv 0) de_int) (de_ix hu (dv 2) de_int)) (da_cons (de_op o_add (de_ix hu (dv 0) de_int) (de_ix hu (dv 2) de_int)) da_nil))))))
abbrev N_law : List Str := ["script", "deck", "turn", "state", "cover", "moves", "due", "other", "told", "receipts", "ends", "locks", "k"]
theorem sc_law : FnScope N_law ["script"] (defScope (top 30)) := ⟨rfl, rfl, rfl, by decide +kernel, rfl, by decide +kernel, by decide +kernel⟩
theorem ok_law (T : Tz K mg) : FnG P w K mg base "law" 15 1 F_law [] := by
  obtain ⟨fd, FD⟩ := T.def_ 31
  refine ⟨⟨_, fd, _, [], [], fnD FD sc_law fun cdv A outer s H E hr => ?_, T.glo 47, FD.kp, FD.bindsN (ps := ["script"]) fun _ _ _ _ _ _ us hl => match us, hl with | [_], _ => rfl, .nil, fun _ _ => RDs.nil⟩, runD_len⟩
  have hu := roomy (X := (cxOf CX0 P w K mg base N_law _ _ _ cdv A outer s H E).nox) hr
  exact (dss_cons (ds_set 1 sc_law.nd (cg (ok__law_deck T) hr (da_cons (dv 0) (da_cons de_int (da_cons de_int da_nil)))))
  (dss_cons (ds_for rfl (di_range1 (by rfl) (T.free 0) (da_cons de_int da_nil)) (dg_name 2 sc_law.nd) (dss_cons (ds_set 3 sc_law.nd (cg (ok__law_drawn_state T) hr (da_cons (dv 1) da_nil)))
  (dss_cons (ds_set 4 sc_law.nd (de_tup (da_cons (de_op o_sub (cg (ok__law_take T) hr (da_cons (dv 1) (da_cons de_int da_nil))) de_int) (da_cons (de_op o_sub (cg (ok__law_take T) hr (da_cons (dv 1) (da_cons de_int da_nil))) de_int) da_nil))))
  (dss_cons (ds_set 5 sc_law.nd (de_if (dt_cmp o_gt (cg (ok__law_take T) hr (da_cons (dv 1) (da_cons de_int da_nil))) de_int) (cg (ok__law_right_moves T) hr (da_cons (dv 1) (da_cons (dv 3) (da_cons (dv 4) (da_cons (de_op o_add de_int (cg (ok__law_take T) hr (da_cons (dv 1) (da_cons de_int da_nil)))) da_nil))))) (de_comp rfl sc_law.nd (di_range1 (by rfl) (T.free 0) (da_cons (cg (ok__law_take T) hr (da_cons (dv 1) (da_cons de_int da_nil))) da_nil)) (own := [("k", 12)]) (blkOk_by (N := N_law) (sc := defScope (top 30)) (by decide +kernel)) (ow := [12]) (by decide) (fun _ _ _ _ _ => (dg_name 12 sc_law.nd)) (fun _ _ _ _ _ => dts_nil) (fun _ _ _ _ _ => (cg (ok__law_drawn_move T) hr (da_cons (dv 1) da_nil))))))
  (dss_cons (ds_set 6 sc_law.nd (cg (ok__law_moved T) hr (da_cons (dv 3) (da_cons (dv 5) (da_cons (dv 4) da_nil)))))
  (dss_cons (ds_set 7 sc_law.nd (cg (ok__law_turned_state T) hr (da_cons (dv 3) da_nil)))
  (dss_cons (ds_set 8 sc_law.nd (cgK (okK_next_state_0 T) hr (da_cons (dv 7) (da_cons (de_callT c_tuple (by rfl) (T.free 1) bt_tuple (da_cons (dv 5) da_nil)) da_nil)) (dk_cons (de_tup (da_cons (de_ix hu (dv 4) de_int) (da_cons (de_ix hu (dv 4) de_int) da_nil))) dk_nil)))
  (dss_cons (ds_if (dt_not (dt_val (cg (ok__law_same T) hr (da_cons (cgK (okK_next_state_0 T) hr (da_cons (dv 3) (da_cons (de_callT c_tuple (by rfl) (T.free 1) bt_tuple (da_cons (dv 5) da_nil)) da_nil)) (dk_cons (dv 4) dk_nil)) (da_cons (dv 6) da_nil))))) (dss_one (ds_ret de_bl))
  dss_nil)
  (dss_cons (ds_if (dt_not (dt_val (cg (ok__law_same T) hr (da_cons (dv 8) (da_cons (de_if (dt_cmp o_is (dv 6) de_non) de_non (cg (ok__law_turned_state T) hr (da_cons (dv 6) da_nil))) da_nil))))) (dss_one (ds_ret de_bl))
  dss_nil)
  (dss_cons (ds_set 9 sc_law.nd (cg (ok__law_drawn_receipts T) hr (da_cons (dv 1) da_nil)))
  (dss_cons (ds_set 10 sc_law.nd (cg (ok__law_worth T) hr (da_cons (dv 3) (da_cons (dv 9) da_nil))))
  (dss_cons (ds_if (dt_not (dt_val (cg (ok__law_same T) hr (da_cons (de_lst (da_cons (cg (ok_worth T) hr (da_cons (dv 3) (da_cons (de_callT c_dict (by rfl) (T.free 2) bt_dict (da_cons (dv 9) da_nil)) da_nil))) (da_cons (cg (ok_worth T) hr (da_cons (dv 7) (da_cons (de_callT c_dict (by rfl) (T.free 2) bt_dict (da_cons (dv 9) da_nil)) da_nil))) da_nil))) (da_cons (de_lst (da_cons (dv 10) (da_cons (de_tup (da_cons (de_ix hu (dv 10) de_int) (da_cons (de_ix hu (dv 10) de_int) da_nil))) da_nil))) da_nil))))) (dss_one (ds_ret de_bl))
  dss_nil)
  (dss_cons (ds_set 11 sc_law.nd (de_tup (da_cons (de_op o_sub (de_ix hu (dv 10) de_int) (de_ix hu (dv 3) de_int)) (da_cons (de_op o_sub (de_ix hu (dv 10) de_int) (de_ix hu (dv 3) de_int)) da_nil))))
  (dss_cons (ds_if (dt_not (dt_val (cg (ok__law_same T) hr (da_cons (de_lst (da_cons (cg (ok_lock_shares T) hr (da_cons (de_ix hu (dv 3) de_int) (da_cons (de_callT c_dict (by rfl) (T.free 2) bt_dict (da_cons (dv 9) da_nil)) da_nil))) (da_cons (cg (ok_lock_shares T) hr (da_cons (de_ix hu (dv 7) de_int) (da_cons (de_callT c_dict (by rfl) (T.free 2) bt_dict (da_cons (dv 9) da_nil)) da_nil))) da_nil))) (da_cons (de_lst (da_cons (dv 11) (da_cons (de_tup (da_cons (de_ix hu (dv 11) de_int) (da_cons (de_ix hu (dv 11) de_int) da_nil))) da_nil))) da_nil))))) (dss_one (ds_ret de_bl))
  dss_nil)
  (dss_one (ds_if (dt_cmp (o_eq hu) (cg (ok_first_proposes T) hr (da_cons (de_ix hu (dv 3) de_int) da_nil)) (cg (ok_first_proposes T) hr (da_cons (de_ix hu (dv 7) de_int) da_nil))) (dss_one (ds_ret de_bl))
  dss_nil))))))))))))))))
  (dss_one (ds_ret de_bl))))
end
abbrev R : PySem.W.OpenRow := PySem.W.OpenLaw.row PySem.Challenge.rw_turnpike_k00_whole_ends_exchanged
abbrev hk : PySem.W.Hook := He.hookD 5 fa fn
def ob (s : PySem.W.SharedT) : He.AlD := He.obsDG 5 fa fn (HandSHeadRun.getT s)
theorem ob_eq (s : PySem.W.SharedT) : ob s = hk.obs s.abs := He.obsDG_eq (HandSHeadRun.getT_eq s)
def loose_0 : List PySem.Str := ["FACTOR", "SHIFT", "KEYS", "key_of", "MOST_LOCKS", "first_proposes", "Draft", "next_state", "was_opened", "lock_shares", "worth", "_law_deck", "_law_take", "_law_pick", "_law_plain"]
def loose_1 : List PySem.Str := ["_law_same", "_law_key", "_law_secret", "_law_drawn_state", "_law_drawn_move", "_law_moved", "_law_right_moves", "_law_turned_state", "_law_worth", "_law_drawn_receipts"]
def loose : List PySem.Str := loose_0 ++ (loose_1)
set_option maxHeartbeats 0 in
theorem run (w : World) : HandSHeadRun.RunEq R (PySem.W.view R.prog [30]) hk ob 20000 loose w := by
  intro os
  kernel_rfl
end Lk00
namespace Lk00
open PySem PySem.Spec PyProof.Rows L2 Dt
theorem okLaw {P : Program} {w : World} {K : PySem.W.Frag} {mg : Str → Option Value} {base : Heap} {f : Addr} {fd : FuncData} (FD : FunD K "law" "law" (defArgs (top 30)) (defBody (top 30)) (defScope (top 30)) [] [] f fd) (T : Tz K mg) : FnOk P w K mg base CX0 15 f fd ["script"] (spD K 1 F_law) := by
  refine fnD FD sc_law fun cdv A outer s H E hr => ?_
  have hu := roomy (X := (cxOf CX0 P w K mg base N_law _ _ _ cdv A outer s H E).nox) hr
  exact (dss_cons (ds_set 1 sc_law.nd (cg (ok__law_deck T) hr (da_cons (dv 0) (da_cons de_int (da_cons de_int da_nil)))))
  (dss_cons (ds_for rfl (di_range1 (by rfl) (T.free 0) (da_cons de_int da_nil)) (dg_name 2 sc_law.nd) (dss_cons (ds_set 3 sc_law.nd (cg (ok__law_drawn_state T) hr (da_cons (dv 1) da_nil)))
  (dss_cons (ds_set 4 sc_law.nd (de_tup (da_cons (de_op o_sub (cg (ok__law_take T) hr (da_cons (dv 1) (da_cons de_int da_nil))) de_int) (da_cons (de_op o_sub (cg (ok__law_take T) hr (da_cons (dv 1) (da_cons de_int da_nil))) de_int) da_nil))))
  (dss_cons (ds_set 5 sc_law.nd (de_if (dt_cmp o_gt (cg (ok__law_take T) hr (da_cons (dv 1) (da_cons de_int da_nil))) de_int) (cg (ok__law_right_moves T) hr (da_cons (dv 1) (da_cons (dv 3) (da_cons (dv 4) (da_cons (de_op o_add de_int (cg (ok__law_take T) hr (da_cons (dv 1) (da_cons de_int da_nil)))) da_nil))))) (de_comp rfl sc_law.nd (di_range1 (by rfl) (T.free 0) (da_cons (cg (ok__law_take T) hr (da_cons (dv 1) (da_cons de_int da_nil))) da_nil)) (own := [("k", 12)]) (blkOk_by (N := N_law) (sc := defScope (top 30)) (by decide +kernel)) (ow := [12]) (by decide) (fun _ _ _ _ _ => (dg_name 12 sc_law.nd)) (fun _ _ _ _ _ => dts_nil) (fun _ _ _ _ _ => (cg (ok__law_drawn_move T) hr (da_cons (dv 1) da_nil))))))
  (dss_cons (ds_set 6 sc_law.nd (cg (ok__law_moved T) hr (da_cons (dv 3) (da_cons (dv 5) (da_cons (dv 4) da_nil)))))
  (dss_cons (ds_set 7 sc_law.nd (cg (ok__law_turned_state T) hr (da_cons (dv 3) da_nil)))
  (dss_cons (ds_set 8 sc_law.nd (cgK (okK_next_state_0 T) hr (da_cons (dv 7) (da_cons (de_callT c_tuple (by rfl) (T.free 1) bt_tuple (da_cons (dv 5) da_nil)) da_nil)) (dk_cons (de_tup (da_cons (de_ix hu (dv 4) de_int) (da_cons (de_ix hu (dv 4) de_int) da_nil))) dk_nil)))
  (dss_cons (ds_if (dt_not (dt_val (cg (ok__law_same T) hr (da_cons (cgK (okK_next_state_0 T) hr (da_cons (dv 3) (da_cons (de_callT c_tuple (by rfl) (T.free 1) bt_tuple (da_cons (dv 5) da_nil)) da_nil)) (dk_cons (dv 4) dk_nil)) (da_cons (dv 6) da_nil))))) (dss_one (ds_ret de_bl))
  dss_nil)
  (dss_cons (ds_if (dt_not (dt_val (cg (ok__law_same T) hr (da_cons (dv 8) (da_cons (de_if (dt_cmp o_is (dv 6) de_non) de_non (cg (ok__law_turned_state T) hr (da_cons (dv 6) da_nil))) da_nil))))) (dss_one (ds_ret de_bl))
  dss_nil)
  (dss_cons (ds_set 9 sc_law.nd (cg (ok__law_drawn_receipts T) hr (da_cons (dv 1) da_nil)))
  (dss_cons (ds_set 10 sc_law.nd (cg (ok__law_worth T) hr (da_cons (dv 3) (da_cons (dv 9) da_nil))))
  (dss_cons (ds_if (dt_not (dt_val (cg (ok__law_same T) hr (da_cons (de_lst (da_cons (cg (ok_worth T) hr (da_cons (dv 3) (da_cons (de_callT c_dict (by rfl) (T.free 2) bt_dict (da_cons (dv 9) da_nil)) da_nil))) (da_cons (cg (ok_worth T) hr (da_cons (dv 7) (da_cons (de_callT c_dict (by rfl) (T.free 2) bt_dict (da_cons (dv 9) da_nil)) da_nil))) da_nil))) (da_cons (de_lst (da_cons (dv 10) (da_cons (de_tup (da_cons (de_ix hu (dv 10) de_int) (da_cons (de_ix hu (dv 10) de_int) da_nil))) da_nil))) da_nil))))) (dss_one (ds_ret de_bl))
  dss_nil)
  (dss_cons (ds_set 11 sc_law.nd (de_tup (da_cons (de_op o_sub (de_ix hu (dv 10) de_int) (de_ix hu (dv 3) de_int)) (da_cons (de_op o_sub (de_ix hu (dv 10) de_int) (de_ix hu (dv 3) de_int)) da_nil))))
  (dss_cons (ds_if (dt_not (dt_val (cg (ok__law_same T) hr (da_cons (de_lst (da_cons (cg (ok_lock_shares T) hr (da_cons (de_ix hu (dv 3) de_int) (da_cons (de_callT c_dict (by rfl) (T.free 2) bt_dict (da_cons (dv 9) da_nil)) da_nil))) (da_cons (cg (ok_lock_shares T) hr (da_cons (de_ix hu (dv 7) de_int) (da_cons (de_callT c_dict (by rfl) (T.free 2) bt_dict (da_cons (dv 9) da_nil)) da_nil))) da_nil))) (da_cons (de_lst (da_cons (dv 11) (da_cons (de_tup (da_cons (de_ix hu (dv 11) de_int) (da_cons (de_ix hu (dv 11) de_int) da_nil))) da_nil))) da_nil))))) (dss_one (ds_ret de_bl))
  dss_nil)
  (dss_one (ds_if (dt_cmp (o_eq hu) (cg (ok_first_proposes T) hr (da_cons (de_ix hu (dv 3) de_int) da_nil)) (cg (ok_first_proposes T) hr (da_cons (de_ix hu (dv 7) de_int) da_nil))) (dss_one (ds_ret de_bl))
  dss_nil))))))))))))))))
  (dss_one (ds_ret de_bl))))
end Lk00

set_option Elab.async false
set_option linter.all false
set_option maxRecDepth 100000
set_option maxHeartbeats 0
open PySem PySem.W PySem.Calls PyProof.Rows
theorem Lk00.fin (law : ∀ ns : List Int, ns.length ≤ 63 → ∃ h', Lk00.F_law [.ref 0] [.ro (ns.map Dt.D.int)] = some (.bl true, h')) : PySem.Challenge.rw_turnpike_k00_whole_ends_exchanged.Holds := by
  w_on; o_law
  refine HandSHeadRun.head_any (r := OpenLaw.row PySem.Challenge.rw_turnpike_k00_whole_ends_exchanged) (q := view (OpenLaw.row PySem.Challenge.rw_turnpike_k00_whole_ends_exchanged).prog [30]) (H := Lk00.hk) (ob := Lk00.ob) (M := 20000) (loose := Lk00.loose) (d := HandSHeadRun.topDef (OpenLaw.row PySem.Challenge.rw_turnpike_k00_whole_ends_exchanged).prog 30) (kwd := []) Lk00.ob_eq
    (by kernel_rfl) (fun s => by kernel_rfl) Lk00.run (by kernel_rfl) (by kernel_rfl) (by kernel_rfl) (by rfl) (by first | assumption | decide +kernel) (by decide +kernel) ⟨rfl, rfl, rfl, rfl, rfl, by decide +kernel⟩ ?hw ?hc
  case hw => w_witness2
  case hc =>
    refine L2.walk_ofE (l := PySem.Challenge.rw_turnpike_k00_whole_ends_exchanged) (n := 63) (k := 15) (x := "script") (CX := L2.CX0) rfl (by decide) (by kernel_rfl) ⟨rfl, by decide, by decide⟩ ?F (fun _ _ _ _ z => z)
    intro w mg fa h Y G hmg0
    obtain ⟨K, KX, c⟩ := Y
    have hmg : mg ("law" : PySem.Str) = some (.ref fa) := by
      have e : (HandSHeadRun.topDef (OpenLaw.row PySem.Challenge.rw_turnpike_k00_whole_ends_exchanged).prog 30).name = ("law" : PySem.Str) := by kernel_rfl
      rw [← e]
      exact hmg0
    have T : Lk00.Tz K mg := ⟨⟨h, KX, G⟩, c⟩
    obtain ⟨fd, FD⟩ := T.def_ 31
    have e := hmg.symm.trans (T.glo 47)
    cases e
    have b := L2.FunD.bindsA (ps := ["script"]) FD fun _ _ _ _ _ _ us hl => match us, hl with | [_], _ => rfl
    refine ⟨K, fd, Dt.spD K 1 Lk00.F_law, KX, fun s v => b s [v] rfl, fun H a ns hl hO hS => Dt.law_end law H a ns hl hO hS, fun base KX2 G2 => ?_⟩
    exact Lk00.okLaw FD T
theorem PySem.Challenge.cw_turnpike_k00_whole_ends_exchanged_holds : PySem.Challenge.rw_turnpike_k00_whole_ends_exchanged.Holds := by
  exact Lk00.fin Lk00.law
