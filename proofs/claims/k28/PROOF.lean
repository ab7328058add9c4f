import PyProof.Rows.All
import Wide.All
import OpenK.AllK
import Wide.FinOn
import KE.KStateDown
import HandS.ForMost
import HandS.WordsExc
import HandS.Defaults
import HandS.Style
import HandS.Zip
import HandS.TupMul
import HandS.TupAny
import HandS.NoneIn
import HandS.IsInst
import HandS.Wide
import HandS.Head2
import HandS.HeadEnd
import HandS.HeadHook2
import HandS.HeadHook3
import HandS.EndBits
import PyProof.ListMulRoad
import PyProof.FactsAll.tuple_2
import PySem.Challenge.RW_longpaid_k28_parts_that_are_alike
set_option Elab.async false
set_option linter.all false
set_option maxRecDepth 100000
set_option maxHeartbeats 1000000
/-! PI1: values as trees, what represents them in an abstract heap, roots, frames. -/
namespace PI
open PySem PySem.Spec PyProof.Rows L2

/-- frozen data -/
inductive D where
  | non
  | bl (b : Bool)
  | int (i : Int)
  | str (s : Str)
  | tup (xs : List D)
  | lst (xs : List D)
  /-- a list that may be locked (the script) -/
  | rol (xs : List D)
  | dct (ks : List Key) (xs : List D)
  | obj (c : Nat) (ns : List Str) (xs : List D)
/-- data of one owner: lists, dicts, instances that may change -/
inductive O where
  | fz (d : D)
  | lst (xs : List O)
  | dct (ks : List Key) (xs : List O)
  | obj (c : Nat) (ns : List Str) (xs : List O)

mutual
def O.frz : O → D
  | .fz d => d
  | .lst os => .lst (O.frzs os)
  | .dct ks os => .dct ks (O.frzs os)
  | .obj c ns os => .obj c ns (O.frzs os)
def O.frzs : List O → List D
  | [] => []
  | o :: os => o.frz :: O.frzs os
end

/-- where the classes stand -/
abbrev Cl := Nat → Addr

/-- a tuple: of this heap, or of the module's written part -/
def TupAt (K : PySem.W.Frag) (G : Hp) (a : Addr) (vs : List V) : Prop := G a = some (.tup vs) ∨ SqT K (fun _ => none) a vs
theorem TupAt.seq {K : PySem.W.Frag} {G : Hp} {a : Addr} {vs : List V} (h : TupAt K G a vs) : SqT K G a vs := by
  rcases h with h | h
  · exact SqT.of h
  · rcases h with (h | ⟨o, h⟩) | h
    · cases h
    · cases h
    · exact .inr h
section
variable (K : PySem.W.Frag) (cl : Cl)
mutual
def RepV (G : Hp) : V → D → Prop
  | v, .non => v = .non
  | v, .bl b => v = .bl b
  | v, .int i => v = .int i
  | v, .str s => v = .str s
  | v, .tup ds => ∃ a vs, v = .ref a ∧ TupAt K G a vs ∧ RepVs G vs ds
  | v, .lst ds => ∃ a vs, v = .ref a ∧ G a = some (.lst vs) ∧ RepVs G vs ds
  | v, .rol ds => ∃ a vs, v = .ref a ∧ SqL K G a vs ∧ RepVs G vs ds
  | v, .dct ks ds => ∃ a kvs, v = .ref a ∧ Rd G a (.dK kvs) ∧ kvs.map (·.1) = ks ∧ RepVs G (kvs.map (·.2)) ds
  | v, .obj c ns ds => ∃ a dx fs, v = .ref a ∧ G a = some (.ins (cl c) dx fs) ∧ fs.map (·.1) = ns ∧ RepVs G (fs.map (·.2)) ds
def RepVs (G : Hp) : List V → List D → Prop
  | vs, [] => vs = []
  | vs, d :: ds => ∃ v ws, vs = v :: ws ∧ RepV G v d ∧ RepVs G ws ds
end

abbrev Path := List Nat
abbrev Lab := Addr → Option Path

mutual
def RepO (G H : Hp) (L : Lab) : Path → V → O → Prop
  | p, v, .fz d => RepV K cl G v d
  | p, v, .lst os => ∃ a vs, v = .ref a ∧ L a = some p ∧ H a = some (.lst vs) ∧ RepOs G H L p 0 vs os
  | p, v, .dct ks os => ∃ a kvs, v = .ref a ∧ L a = some p ∧ H a = some (.dK kvs) ∧ kvs.map (·.1) = ks ∧ RepOs G H L p 0 (kvs.map (·.2)) os
  | p, v, .obj c ns os => ∃ a dx fs, v = .ref a ∧ L a = some p ∧ H a = some (.ins (cl c) dx fs) ∧ fs.map (·.1) = ns ∧ RepOs G H L p 0 (fs.map (·.2)) os
def RepOs (G H : Hp) (L : Lab) : Path → Nat → List V → List O → Prop
  | p, i, vs, [] => vs = []
  | p, i, vs, o :: os => ∃ v ws, vs = v :: ws ∧ RepO G H L (p ++ [i]) v o ∧ RepOs G H L p (i + 1) ws os
end
end

section
variable {K : PySem.W.Frag} {cl : Cl} {G G' H H' : Hp} {L L' : Lab}

/-- one abstract heap within another -/
def Le (G G' : Hp) : Prop := ∀ b x, G b = some x → G' b = some x
theorem Le.refl : Le G G := fun _ _ h => h
theorem Le.trans {G1 G2 G3 : Hp} (a : Le G1 G2) (b : Le G2 G3) : Le G1 G3 := fun c x h => b c x (a c x h)
theorem Le.rd (h : Le G G') {a : Addr} {u : HO} (r : Rd G a u) : Rd G' a u := by
  rcases r with r | ⟨o, r⟩
  · exact .inl (h _ _ r)
  · exact .inr ⟨o, h _ _ r⟩
theorem Le.seq (h : Le G G') {a : Addr} {xs : List V} (r : SqL K G a xs) : SqL K G' a xs := by
  rcases r with r | r
  · exact .inl (h.rd r)
  · exact .inr r
theorem Le.tup (h : Le G G') {a : Addr} {xs : List V} (r : TupAt K G a xs) : TupAt K G' a xs := by
  rcases r with r | r
  · exact .inl (h _ _ r)
  · exact .inr r

mutual
theorem RepV.mono (h : Le G G') : ∀ (d : D) (v : V), RepV K cl G v d → RepV K cl G' v d
  | .non, _, r => r
  | .bl _, _, r => r
  | .int _, _, r => r
  | .str _, _, r => r
  | .tup ds, _, ⟨a, vs, e, s, r⟩ => ⟨a, vs, e, h.tup s, RepVs.mono h ds vs r⟩
  | .lst ds, _, ⟨a, vs, e, s, r⟩ => ⟨a, vs, e, h _ _ s, RepVs.mono h ds vs r⟩
  | .rol ds, _, ⟨a, vs, e, s, r⟩ => ⟨a, vs, e, h.seq s, RepVs.mono h ds vs r⟩
  | .dct _ ds, _, ⟨a, kvs, e, s, k, r⟩ => ⟨a, kvs, e, h.rd s, k, RepVs.mono h ds _ r⟩
  | .obj _ _ ds, _, ⟨a, dx, fs, e, s, k, r⟩ => ⟨a, dx, fs, e, h _ _ s, k, RepVs.mono h ds _ r⟩
theorem RepVs.mono (h : Le G G') : ∀ (ds : List D) (vs : List V), RepVs K cl G vs ds → RepVs K cl G' vs ds
  | [], _, r => r
  | d :: ds, _, ⟨v, ws, e, r, rs⟩ => ⟨v, ws, e, RepV.mono h d v r, RepVs.mono h ds ws rs⟩
end

mutual
/-- an owned tree at another heap, under another label -/
theorem RepO.move (hG : Le G G') {p p' : Path} (hm : ∀ a q, L a = some (p ++ q) → L' a = some (p' ++ q) ∧ ∀ x, H a = some x → H' a = some x) :
    ∀ (o : O) (v : V) (q : Path), RepO K cl G H L (p ++ q) v o → RepO K cl G' H' L' (p' ++ q) v o
  | .fz d, v, q, r => RepV.mono hG d v r
  | .lst os, v, q, ⟨a, vs, e, l, h, r⟩ => ⟨a, vs, e, (hm a q l).1, (hm a q l).2 _ h, RepOs.move hG hm os vs q 0 r⟩
  | .dct ks os, v, q, ⟨a, kvs, e, l, h, k, r⟩ => ⟨a, kvs, e, (hm a q l).1, (hm a q l).2 _ h, k, RepOs.move hG hm os _ q 0 r⟩
  | .obj c ns os, v, q, ⟨a, dx, fs, e, l, h, k, r⟩ => ⟨a, dx, fs, e, (hm a q l).1, (hm a q l).2 _ h, k, RepOs.move hG hm os _ q 0 r⟩
theorem RepOs.move (hG : Le G G') {p p' : Path} (hm : ∀ a q, L a = some (p ++ q) → L' a = some (p' ++ q) ∧ ∀ x, H a = some x → H' a = some x) :
    ∀ (os : List O) (vs : List V) (q : Path) (i : Nat), RepOs K cl G H L (p ++ q) i vs os → RepOs K cl G' H' L' (p' ++ q) i vs os
  | [], _, _, _, r => r
  | o :: os, _, q, i, ⟨v, ws, e, r, rs⟩ => ⟨v, ws, e, by
      have r2 : RepO K cl G H L (p ++ (q ++ [i])) v o := by rw [← List.append_assoc]; exact r
      rw [List.append_assoc]
      exact RepO.move hG hm o v (q ++ [i]) r2, RepOs.move hG hm os ws q (i + 1) rs⟩
end

mutual
/-- frozen: its nodes have become part of the frozen heap -/
theorem RepO.freeze (hG : Le G G') {p : Path} (hm : ∀ a q x, L a = some (p ++ q) → H a = some x → G' a = some x) :
    ∀ (o : O) (v : V) (q : Path), RepO K cl G H L (p ++ q) v o → RepV K cl G' v o.frz
  | .fz d, v, q, r => RepV.mono hG d v r
  | .lst os, v, q, ⟨a, vs, e, l, h, r⟩ => ⟨a, vs, e, hm a q _ l h, RepOs.freeze hG hm os vs q 0 r⟩
  | .dct ks os, v, q, ⟨a, kvs, e, l, h, k, r⟩ => ⟨a, kvs, e, .inl (hm a q _ l h), k, RepOs.freeze hG hm os _ q 0 r⟩
  | .obj c ns os, v, q, ⟨a, dx, fs, e, l, h, k, r⟩ => ⟨a, dx, fs, e, hm a q _ l h, k, RepOs.freeze hG hm os _ q 0 r⟩
theorem RepOs.freeze (hG : Le G G') {p : Path} (hm : ∀ a q x, L a = some (p ++ q) → H a = some x → G' a = some x) :
    ∀ (os : List O) (vs : List V) (q : Path) (i : Nat), RepOs K cl G H L (p ++ q) i vs os → RepVs K cl G' vs (O.frzs os)
  | [], _, _, _, r => r
  | o :: os, _, q, i, ⟨v, ws, e, r, rs⟩ => ⟨v, ws, e, RepO.freeze hG hm o v (q ++ [i]) (by rw [← List.append_assoc]; exact r), RepOs.freeze hG hm os ws q (i + 1) rs⟩
end
end

/-! ### roots -/
abbrev Roots := Nat → Option (V × O)

structure RRep (K : PySem.W.Frag) (cl : Cl) (H G : Hp) (L : Lab) (R : Roots) : Prop where
  ge : Le G H
  sep : ∀ b p, L b = some p → G b = none ∧ ∃ x, H b = some x
  imm : ∀ b xs, H b = some (.tup xs) → G b = some (.tup xs)
  rep : ∀ i v o, R i = some (v, o) → RepO K cl G H L [i] v o
  own : ∀ b p, L b = some p → ∃ i r, p = i :: r ∧ (R i).isSome = true

/-- what is not owned stands as it was -/
structure Frame (H G : Hp) (L : Lab) (H' G' : Hp) (L' : Lab) : Prop where
  keep : ∀ b x, H b = some x → L b = none → H' b = some x ∧ L' b = none ∧ (G b = none → G' b = none)
  le : Le G G'
theorem Frame.refl {H G : Hp} {L : Lab} : Frame H G L H G L := ⟨fun _ _ h l => ⟨h, l, id⟩, Le.refl⟩
theorem Frame.trans {H G H1 G1 H2 G2 : Hp} {L L1 L2 : Lab} (a : Frame H G L H1 G1 L1) (b : Frame H1 G1 L1 H2 G2 L2) : Frame H G L H2 G2 L2 :=
  ⟨fun c x h l => by
    obtain ⟨h1, l1, g1⟩ := a.keep c x h l
    obtain ⟨h2, l2, g2⟩ := b.keep c x h1 l1
    exact ⟨h2, l2, fun z => g2 (g1 z)⟩, a.le.trans b.le⟩

section
variable {K : PySem.W.Frag} {cl : Cl} {G G' H H' : Hp} {L L' : Lab} {R R' : Roots}

/-- labels of the roots that go along, renamed -/
def subL (L : Lab) (k' : Nat → Option Nat) : Lab := fun b => match L b with
  | some (i :: r) => (match k' i with
    | some j => some (j :: r)
    | none => none)
  | _ => none
theorem subL_some {k' : Nat → Option Nat} {b : Addr} {j : Nat} {r : Path} (h : subL L k' b = some (j :: r)) : ∃ i, L b = some (i :: r) ∧ k' i = some j := by
  unfold subL at h
  split at h
  · rename_i i r' e
    split at h
    · rename_i j' e2
      cases h
      exact ⟨i, e, e2⟩
    · cases h
  · cases h
theorem subL_cons {k' : Nat → Option Nat} {b : Addr} {p : Path} (h : subL L k' b = some p) : ∃ j r, p = j :: r := by
  unfold subL at h
  split at h
  · split at h
    · cases h; exact ⟨_, _, rfl⟩
    · cases h
  · cases h
theorem subL_of {k' : Nat → Option Nat} {b : Addr} {i j : Nat} {r : Path} (h : L b = some (i :: r)) (e : k' i = some j) : subL L k' b = some (j :: r) := by
  unfold subL
  rw [h]
  simp only [e]

/-- some of the roots, under other numbers -/
theorem RRep.sub (h : RRep K cl H G L R) (k k' : Nat → Option Nat) (hk : ∀ i j, k' i = some j ↔ k j = some i) : RRep K cl H G (subL L k') (fun j => (k j).bind R) := by
  refine ⟨h.ge, fun b p e => ?_, h.imm, fun j v o e => ?_, fun b p e => ?_⟩
  · obtain ⟨j, r, rfl⟩ := subL_cons e
    obtain ⟨i, e1, _⟩ := subL_some e
    exact h.sep b _ e1
  · cases e1 : k j with
    | none => simp [e1] at e
    | some i =>
      simp only [e1, Option.bind_some] at e
      have r := h.rep i v o e
      have := RepO.move (L' := subL L k') (H' := H) (G' := G) (p := [i]) (p' := [j]) Le.refl (fun a q l => ⟨subL_of l ((hk i j).mpr e1), fun _ x => x⟩) o v [] (by simpa using r)
      simpa using this
  · obtain ⟨j, r, rfl⟩ := subL_cons e
    obtain ⟨i, e1, e2⟩ := subL_some e
    refine ⟨j, r, rfl, ?_⟩
    obtain ⟨i', r', e3, e4⟩ := h.own b _ e1
    cases e3
    rw [(hk i j).mp e2]
    exact e4

/-- labels behind: the roots that stayed, and those that came back, renamed -/
def backL (L : Lab) (hid : Nat → Bool) (L' : Lab) (m' : Nat → Option Nat) : Lab := fun b => match L b with
  | some (i :: r) => (match hid i with
    | true => some (i :: r)
    | false => subL L' m' b)
  | _ => subL L' m' b

theorem RRep.back (h : RRep K cl H G L R) {k k' : Nat → Option Nat} (hk : ∀ i j, k' i = some j ↔ k j = some i) (h' : RRep K cl H' G' L' R') (f : Frame H G (subL L k') H' G' L')
    (hid : Nat → Bool) (m m' : Nat → Option Nat) (hm : ∀ i j, m' j = some i ↔ m i = some j) (hh : ∀ i, hid i = true → k' i = none ∧ m i = none) :
    RRep K cl H' G' (backL L hid L' m') (fun i => match hid i with | true => R i | false => (m i).bind R') ∧
    Frame H G L H' G' (backL L hid L' m') := by
  have hidden : ∀ b i r, L b = some (i :: r) → hid i = true → subL L k' b = none := fun b i r e z => by
    unfold subL
    rw [e]
    simp only [(hh i z).1]
  have bl1 : ∀ b i r, L b = some (i :: r) → hid i = true → backL L hid L' m' b = some (i :: r) := fun b i r e z => by
    unfold backL
    rw [e]
    simp only [z]
  have bl2 : ∀ b p, backL L hid L' m' b = some p → (∃ i r, p = i :: r ∧ L b = some (i :: r) ∧ hid i = true) ∨ subL L' m' b = some p := fun b p e => by
    unfold backL at e
    split at e
    · rename_i i r e1
      split at e
      · rename_i z
        cases e
        exact .inl ⟨i, r, rfl, e1, z⟩
      · exact .inr e
    · exact .inr e
  refine ⟨⟨h'.ge, fun b p e => ?_, h'.imm, fun i v o e => ?_, fun b p e => ?_⟩, ⟨fun b x e l => ?_, f.le⟩⟩
  · rcases bl2 b p e with ⟨i, r, rfl, e1, z⟩ | e1
    · obtain ⟨g, x, hx⟩ := h.sep b _ e1
      obtain ⟨q1, q2, q3⟩ := f.keep b x hx (hidden b i r e1 z)
      exact ⟨q3 g, x, q1⟩
    · obtain ⟨j, r, rfl⟩ := subL_cons e1
      obtain ⟨i, e2, _⟩ := subL_some e1
      exact h'.sep b _ e2
  · cases z : hid i with
    | true =>
      simp only [z] at e
      have r := h.rep i v o e
      have := RepO.move (L' := backL L hid L' m') (H' := H') (G' := G') (p := [i]) (p' := [i]) f.le (fun a q l => ⟨bl1 a i q l z, fun x hx => (f.keep a x hx (hidden a i q l z)).1⟩) o v [] (by simpa using r)
      simpa using this
    | false =>
      simp only [z] at e
      cases e1 : m i with
      | none => simp [e1] at e
      | some j =>
        simp only [e1, Option.bind_some] at e
        have r := h'.rep j v o e
        have := RepO.move (L' := backL L hid L' m') (H' := H') (G' := G') (p := [j]) (p' := [i]) Le.refl (fun a q l => ⟨by
          have s1 : subL L' m' a = some (i :: q) := subL_of l ((hm i j).mpr e1)
          unfold backL
          split
          · rename_i i2 r2 e2
            split
            · rename_i z2
              exfalso
              obtain ⟨_, x, hx⟩ := h.sep a _ e2
              have := (f.keep a x hx (hidden a i2 r2 e2 z2)).2.1
              rw [this] at l
              cases l
            · exact s1
          · exact s1, fun _ x => x⟩) o v [] (by simpa using r)
        simpa using this
  · rcases bl2 b p e with ⟨i, r, rfl, e1, z⟩ | e1
    · refine ⟨i, r, rfl, ?_⟩
      simp only [z]
      obtain ⟨i', r', e3, e4⟩ := h.own b _ e1
      cases e3
      exact e4
    · obtain ⟨i, r, rfl⟩ := subL_cons e1
      obtain ⟨j, e2, e3⟩ := subL_some e1
      refine ⟨i, r, rfl, ?_⟩
      have e4 := (hm i j).mp e3
      have z : hid i = false := by
        cases q : hid i with
        | false => rfl
        | true => rw [(hh i q).2] at e4; cases e4
      simp only [z, e4, Option.bind_some]
      obtain ⟨j', r', e5, e6⟩ := h'.own b _ e2
      cases e5
      exact e6
  · have s0 : subL L k' b = none := by
      unfold subL
      rw [l]
    obtain ⟨q1, q2, q3⟩ := f.keep b x e s0
    refine ⟨q1, ?_, q3⟩
    unfold backL
    rw [l]
    show subL L' m' b = none
    unfold subL
    rw [q2]

def frzG (H G : Hp) (L : Lab) (t : Nat) : Hp := fun b => match L b with
  | some (i :: r) => if i = t then H b else G b
  | _ => G b
def frzL (L : Lab) (t : Nat) : Lab := fun b => match L b with
  | some (i :: r) => if i = t then none else some (i :: r)
  | _ => none
theorem frzL_some {t : Nat} {b : Addr} {p : Path} (e : frzL L t b = some p) : L b = some p ∧ ∃ i r, p = i :: r ∧ i ≠ t := by
  unfold frzL at e
  split at e
  · rename_i i r l
    split at e
    · cases e
    · rename_i n
      cases e
      exact ⟨l, i, r, rfl, n⟩
  · cases e
theorem frzL_of {t : Nat} {b : Addr} {i : Nat} {r : Path} (l : L b = some (i :: r)) (n : i ≠ t) : frzL L t b = some (i :: r) := by
  unfold frzL
  rw [l]
  show (if i = t then none else some (i :: r)) = _
  rw [if_neg n]
theorem frzG_at {t : Nat} {b : Addr} {r : Path} (l : L b = some (t :: r)) : frzG H G L t b = H b := by
  unfold frzG
  rw [l]
  show (if t = t then H b else G b) = _
  rw [if_pos rfl]
theorem frzG_ne {t : Nat} {b : Addr} (n : ∀ r, L b ≠ some (t :: r)) : frzG H G L t b = G b := by
  unfold frzG
  split
  · rename_i i r l
    split
    · rename_i e
      subst e
      exact absurd l (n r)
    · rfl
  · rfl
/-- a root frozen -/
theorem RRep.freeze (h : RRep K cl H G L R) {t : Nat} {v : V} {o : O} (e : R t = some (v, o)) :
    RRep K cl H (frzG H G L t) (frzL L t) (fun i => if i = t then none else R i) ∧ RepV K cl (frzG H G L t) v o.frz ∧ Frame H G L H (frzG H G L t) (frzL L t) := by
  have hle : Le G (frzG H G L t) := fun b x hb => by
    rw [frzG_ne fun r l => by
      have := (h.sep b _ l).1
      rw [hb] at this
      cases this]
    exact hb
  have hge : Le (frzG H G L t) H := fun b x hb => by
    unfold frzG at hb
    split at hb
    · split at hb
      · exact hb
      · exact h.ge b x hb
    · exact h.ge b x hb
  refine ⟨⟨hge, fun b p e1 => ?_, fun b xs e1 => hle _ _ (h.imm b xs e1), fun i v1 o1 e1 => ?_, fun b p e1 => ?_⟩, ?_, ⟨fun b x e1 l => ⟨e1, ?_, fun z => ?_⟩, hle⟩⟩
  · obtain ⟨l, i, r, rfl, n⟩ := frzL_some e1
    obtain ⟨g, x⟩ := h.sep b _ l
    refine ⟨?_, x⟩
    rw [frzG_ne fun r' l' => by
      rw [l] at l'
      cases l'
      exact n rfl]
    exact g
  · by_cases n : i = t
    · rw [if_pos n] at e1; cases e1
    · rw [if_neg n] at e1
      have r := h.rep i v1 o1 e1
      have := RepO.move (L' := frzL L t) (H' := H) (p := [i]) (p' := [i]) hle (fun a q l => ⟨frzL_of l n, fun _ x => x⟩) o1 v1 [] (by simpa using r)
      simpa using this
  · obtain ⟨l, i, r, rfl, n⟩ := frzL_some e1
    refine ⟨i, r, rfl, ?_⟩
    rw [if_neg n]
    obtain ⟨i', r', e3, e4⟩ := h.own b _ l
    cases e3
    exact e4
  · have r := h.rep t v o e
    exact RepO.freeze (L := L) (H := H) (p := [t]) hle (fun a q x l hx => by rw [frzG_at l]; exact hx) o v [] (by simpa using r)
  · unfold frzL
    rw [l]
  · rw [frzG_ne fun r' l' => by rw [l] at l'; cases l']
    exact z
end
end PI
set_option Elab.async false
set_option linter.all false
set_option maxRecDepth 100000
set_option maxHeartbeats 1000000
set_option autoImplicit false
/-! PI2: the state by slots; the judgements; expressions of frozen data. -/
namespace PI
open PySem PySem.Spec L2

abbrev Rho := List (Option O)
def rootsOf (σ : St) (ρ : Rho) : Roots := fun i => match σ[i]?, ρ[i]? with
  | some (some v), some (some o) => some (v, o)
  | _, _ => none
theorem rootsOf_some {σ : St} {ρ : Rho} {i : Nat} {v : V} {o : O} : rootsOf σ ρ i = some (v, o) ↔ σ[i]? = some (some v) ∧ ρ[i]? = some (some o) := by
  unfold rootsOf
  constructor
  · intro h
    split at h
    · rename_i v' o' e1 e2
      cases h
      exact ⟨e1, e2⟩
    · cases h
  · rintro ⟨e1, e2⟩
    rw [e1, e2]

structure SRep (K : PySem.W.Frag) (cl : Cl) (σ : St) (H G : Hp) (L : Lab) (ρ : Rho) : Prop where
  len : σ.length = ρ.length
  all : ∀ (i : Nat) (o : O), ρ[i]? = some (some o) → ∃ v, σ[i]? = some (some v)
  rep : RRep K cl H G L (rootsOf σ ρ)

/-- new things alone -/
structure Ext (H G H' G' : Hp) : Prop where
  keep : ∀ b x, H b = some x → H' b = some x ∧ (G b = none → G' b = none)
  le : Le G G'
  ge : Le G' H'
  imm : ∀ b xs, H' b = some (.tup xs) → H b = some (.tup xs) ∨ G' b = some (.tup xs)
section
variable {K : PySem.W.Frag} {cl : Cl} {G G' H H' : Hp} {L L' : Lab} {R R' : Roots} {σ : St} {ρ : Rho}
theorem Ext.refl (h : Le G H) : Ext H G H G := ⟨fun _ _ e => ⟨e, id⟩, Le.refl, h, fun _ _ e => .inl e⟩
theorem Ext.trans {H1 G1 H2 G2 : Hp} (a : Ext H G H1 G1) (b : Ext H1 G1 H2 G2) : Ext H G H2 G2 :=
  ⟨fun c x e => by
    obtain ⟨h1, g1⟩ := a.keep c x e
    obtain ⟨h2, g2⟩ := b.keep c x h1
    exact ⟨h2, fun z => g2 (g1 z)⟩, a.le.trans b.le, b.ge, fun c xs e => by
    rcases b.imm c xs e with z | z
    · rcases a.imm c xs z with y | y
      · exact .inl y
      · exact .inr (b.le _ _ y)
    · exact .inr z⟩
theorem Ext.new (h : Le G H) {p : Addr} (n : H p = none) (o : HO) : Ext H G (upd H p o) (upd G p o) := by
  have ne : ∀ b x, H b = some x → b ≠ p := fun b x e z => by rw [z, n] at e; cases e
  refine ⟨fun b x e => ?_, fun b x e => ?_, fun b x e => ?_, fun b xs e => ?_⟩
  · rw [upd_ne (ne b x e), upd_ne (ne b x e)]
    exact ⟨e, id⟩
  · rw [upd_ne (ne b x (h b x e))]
    exact e
  · by_cases q : b = p
    · subst q; rw [upd_same] at e ⊢; exact e
    · rw [upd_ne q] at e ⊢; exact h b x e
  · by_cases q : b = p
    · subst q; rw [upd_same] at e ⊢; exact .inr e
    · rw [upd_ne q] at e; exact .inl e
theorem RRep.ext (h : RRep K cl H G L R) (e : Ext H G H' G') : RRep K cl H' G' L R ∧ Frame H G L H' G' L := by
  refine ⟨⟨e.ge, fun b p l => ?_, fun b xs q => ?_, fun i v o q => ?_, h.own⟩, fun b x q l => ⟨(e.keep b x q).1, l, (e.keep b x q).2⟩, e.le⟩
  · obtain ⟨g, x, hx⟩ := h.sep b p l
    exact ⟨(e.keep b x hx).2 g, x, (e.keep b x hx).1⟩
  · rcases e.imm b xs q with z | z
    · exact e.le _ _ (h.imm b xs z)
    · exact z
  · have := RepO.move (L' := L) (H' := H') (p := [i]) (p' := [i]) e.le (fun a q l => ⟨l, fun x hx => (e.keep a x hx).1⟩) o v [] (by simpa using h.rep i v o q)
    simpa using this
theorem SRep.ext (h : SRep K cl σ H G L ρ) (e : Ext H G H' G') : SRep K cl σ H' G' L ρ ∧ Frame H G L H' G' L :=
  ⟨⟨h.len, h.all, (h.rep.ext e).1⟩, (h.rep.ext e).2⟩
theorem SRep.le (h : SRep K cl σ H G L ρ) : Le G H := h.rep.ge
/-- a frozen slot -/
theorem SRep.fz (h : SRep K cl σ H G L ρ) {i : Nat} {d : D} (e : ρ[i]? = some (some (.fz d))) : ∃ v, σ[i]? = some (some v) ∧ RepV K cl G v d := by
  obtain ⟨v, ev⟩ := h.all i _ e
  exact ⟨v, ev, h.rep.rep i v _ (rootsOf_some.mpr ⟨ev, e⟩)⟩

/-! ### appending and dropping temporary roots -/
theorem get_app {α : Type} {xs : List α} {x : α} {i : Nat} : (xs ++ [x])[i]? = if i < xs.length then xs[i]? else if i = xs.length then some x else none := by
  by_cases h : i < xs.length
  · rw [if_pos h, List.getElem?_append_left h]
  · rw [if_neg h, List.getElem?_append_right (by omega)]
    by_cases e : i = xs.length
    · rw [if_pos e]; subst e; simp
    · rw [if_neg e]
      have : i - xs.length ≠ 0 := by omega
      cases q : i - xs.length with
      | zero => exact absurd q this
      | succ n => rfl
/-- a frozen value as a temporary root -/
theorem SRep.push (h : SRep K cl σ H G L ρ) {v : V} {d : D} (r : RepV K cl G v d) : SRep K cl (σ ++ [some v]) H G L (ρ ++ [some (.fz d)]) := by
  refine ⟨by simp [h.len], fun i o e => ?_, ⟨h.rep.ge, h.rep.sep, h.rep.imm, fun i v1 o e => ?_, fun b p l => ?_⟩⟩
  · rw [get_app] at e ⊢
    rw [h.len]
    split at e
    · rename_i z
      rw [if_pos z]
      exact h.all i o e
    · rename_i z
      rw [if_neg z]
      split at e
      · rename_i z2
        rw [if_pos z2]
        exact ⟨v, rfl⟩
      · cases e
  · obtain ⟨e1, e2⟩ := rootsOf_some.mp e
    rw [get_app] at e1 e2
    rw [h.len] at e1
    split at e2
    · rename_i z
      rw [if_pos z] at e1
      exact h.rep.rep i v1 o (rootsOf_some.mpr ⟨e1, e2⟩)
    · rename_i z
      rw [if_neg z] at e1
      split at e2
      · rename_i z2
        rw [if_pos z2] at e1
        cases e1
        cases e2
        exact r
      · cases e2
  · obtain ⟨i, r', e1, e2⟩ := h.rep.own b p l
    refine ⟨i, r', e1, ?_⟩
    obtain ⟨⟨v1, o⟩, e3⟩ := Option.isSome_iff_exists.mp e2
    obtain ⟨e4, e5⟩ := rootsOf_some.mp e3
    have : rootsOf (σ ++ [some v]) (ρ ++ [some (.fz d)]) i = some (v1, o) := rootsOf_some.mpr ⟨by
      rw [List.getElem?_append_left (List.getElem?_eq_some_iff.mp e4).1]; exact e4, by
      rw [List.getElem?_append_left (List.getElem?_eq_some_iff.mp e5).1]; exact e5⟩
    rw [this]
    rfl
/-- the temporary root frozen -/
theorem SRep.pop {v : V} {o : O} (h : SRep K cl (σ ++ [some v]) H G L (ρ ++ [some o])) : ∃ G' L', SRep K cl σ H G' L' ρ ∧ RepV K cl G' v o.frz ∧ Frame H G L H G' L' := by
  have hl : σ.length = ρ.length := by simpa using h.len
  have e0 : rootsOf (σ ++ [some v]) (ρ ++ [some o]) ρ.length = some (v, o) := rootsOf_some.mpr ⟨by rw [get_app, hl]; simp, by rw [get_app]; simp⟩
  obtain ⟨r1, r2, r3⟩ := h.rep.freeze e0
  refine ⟨_, _, ⟨hl, fun i o' e => ?_, ?_⟩, r2, r3⟩
  · have hi := (List.getElem?_eq_some_iff.mp e).1
    obtain ⟨v', e'⟩ := h.all i o' (by rw [List.getElem?_append_left hi]; exact e)
    exact ⟨v', by rw [List.getElem?_append_left (by omega)] at e'; exact e'⟩
  · have er : (fun i => if i = ρ.length then none else rootsOf (σ ++ [some v]) (ρ ++ [some o]) i) = rootsOf σ ρ := by
      funext i
      by_cases hi : i < ρ.length
      · rw [if_neg (by omega)]
        unfold rootsOf
        rw [List.getElem?_append_left (by omega), List.getElem?_append_left hi]
      · have z : rootsOf σ ρ i = none := by
          unfold rootsOf
          rw [List.getElem?_eq_none (by omega : ρ.length ≤ i)]
          split
          · rename_i e1 e2; cases e2
          · rfl
        rw [z]
        by_cases hi2 : i = ρ.length
        · rw [if_pos hi2]
        · rw [if_neg hi2]
          unfold rootsOf
          rw [List.getElem?_eq_none (by simp; omega : (ρ ++ [some o]).length ≤ i)]
          split
          · rename_i e1 e2; cases e2
          · rfl
    rw [er] at r1
    exact r1
end

/-! ### the judgements -/
section
variable (X : Cx) (cl : Cl)
abbrev MD := Rho → Option (D × Rho)
abbrev MO := Rho → Option (O × Rho)
abbrev MB := Rho → Option (Bool × Rho)
def tD (g : MD) : TE := fun σ H Q => ∃ G L ρ d ρ', SRep X.K cl σ H G L ρ ∧ g ρ = some (d, ρ') ∧ ∀ v H' G' L', SRep X.K cl σ H' G' L' ρ' → RepV X.K cl G' v d → Frame H G L H' G' L' → Q v H'
def tO (g : MO) : TE := fun σ H Q => ∃ G L ρ o ρ', SRep X.K cl σ H G L ρ ∧ g ρ = some (o, ρ') ∧ ∀ v H' G' L', SRep X.K cl (σ ++ [some v]) H' G' L' (ρ' ++ [some o]) → Frame H G L H' G' L' → Q v H'
def tB' (g : MB) : TT := fun σ H Q => ∃ G L ρ b ρ', SRep X.K cl σ H G L ρ ∧ g ρ = some (b, ρ') ∧ ∀ H' G' L', SRep X.K cl σ H' G' L' ρ' → Frame H G L H' G' L' → Q b H'
def SD (e : Expr) (g : MD) : Prop := PE X e (tD X cl g)
def SO (e : Expr) (g : MO) : Prop := PE X e (tO X cl g)
def ST (e : Expr) (g : MB) : Prop := PT X e (tB' X cl g)
end

section
variable {X : Cx} {cl : Cl} {e a b c : Expr} {pos : Pos}
theorem PE.weak {t t' : TE} (h : PE X e t) (w : ∀ σ H Q, t' σ H Q → t σ H Q) : PE X e t' := ⟨fun pins s σ H Q I q => h.run pins s σ H Q I (w σ H Q q)⟩
theorem PT.weak {t t' : TT} (h : PT X e t) (w : ∀ σ H Q, t' σ H Q → t σ H Q) : PT X e t' := ⟨fun pins s σ H Q I q => h.run pins s σ H Q I (w σ H Q q)⟩

/-- an owned result, frozen -/
def mFrz (g : MO) : MD := fun ρ => match g ρ with
  | some (o, ρ') => some (o.frz, ρ')
  | none => none
theorem SO.sd {g : MO} (h : SO X cl e g) : SD X cl e (mFrz g) := PE.weak h fun σ H Q ⟨G, L, ρ, d, ρ', hs, hg, q⟩ => by
  unfold mFrz at hg
  split at hg
  · rename_i o ρ2 eg
    cases hg
    refine ⟨G, L, ρ, o, _, hs, eg, fun v H' G' L' s f => ?_⟩
    obtain ⟨G2, L2, s2, r2, f2⟩ := s.pop
    exact q v H' G2 L2 s2 r2 (f.trans f2)
  · cases hg
/-- a frozen result as an owned one -/
def oFz (g : MD) : MO := fun ρ => match g ρ with
  | some (d, ρ') => some (.fz d, ρ')
  | none => none
theorem SD.so {g : MD} (h : SD X cl e g) : SO X cl e (oFz g) := PE.weak h fun σ H Q ⟨G, L, ρ, o, ρ', hs, hg, q⟩ => by
  unfold oFz at hg
  split at hg
  · rename_i d ρ2 eg
    cases hg
    exact ⟨G, L, ρ, d, _, hs, eg, fun v H' G' L' s r f => q v H' G' L' (s.push r) f⟩
  · cases hg

/-! ### constants, names -/
def mC (d : D) : MD := fun ρ => some (d, ρ)
theorem tD_const {v : V} {d : D} (r : ∀ G, RepV X.K cl G v d) : ∀ σ H Q, tD X cl (mC d) σ H Q → tC v σ H Q := fun σ H Q ⟨G, L, ρ, d', ρ', hs, hg, q⟩ => by
  cases hg
  exact q v H G L hs (r G) Frame.refl
theorem sd_int {i : Int} {j : Nat} : SD X cl (.Constant (.int i) j pos) (mC (.int i)) := PE.weak pe_int (tD_const fun _ => rfl)
theorem sd_str {x : Str} {j : Nat} : SD X cl (.Constant (.str x) j pos) (mC (.str x)) := PE.weak pe_str (tD_const fun _ => rfl)
theorem sd_bl {b : Bool} {j : Nat} : SD X cl (.Constant (.bool b) j pos) (mC (.bl b)) := PE.weak pe_bl (tD_const fun _ => rfl)
theorem sd_non {j : Nat} : SD X cl (.Constant .none j pos) (mC .non) := PE.weak pe_non (tD_const fun _ => rfl)
/-- a name of the module -/
theorem sd_glob {x : Str} {v : V} {u : Value} {d : D} (hg : Gl X x) (hm : X.mg x = some u) (r : RelV v u) (rd : ∀ G, RepV X.K cl G v d) (hd : (x == ("__debug__" : Str)) = false := by decide) : SD X cl (.Name x pos) (mC d) :=
  PE.weak (pe_glob hg hm r hd) (tD_const rd)
/-- a name of the def that holds frozen data -/
def mVar (i : Nat) : MD := fun ρ => match ρ[i]? with
  | some (some (.fz d)) => some (d, ρ)
  | _ => none
theorem sd_var (i : Nat) {x : Str} (h : PE X (.Name x pos) (tVar i)) : SD X cl (.Name x pos) (mVar i) := PE.weak h fun σ H Q ⟨G, L, ρ, d, ρ', hs, hg, q⟩ => by
  unfold mVar at hg
  split at hg
  · rename_i d' e
    cases hg
    obtain ⟨v, ev, r⟩ := hs.fz e
    exact ⟨v, ev, q v H G L hs r Frame.refl⟩
  · cases hg

/-! ### operators -/
/-- an operator's reading by what the values stand for -/
def R2Ok (K : PySem.W.Frag) (cl : Cl) (r : R2) (f : D → D → Option D) : Prop := ∀ (G H : Hp) (x y : V) (dx dy d : D) (Q : VK), Le G H → (∀ b xs, H b = some (.tup xs) → G b = some (.tup xs)) → RepV K cl G x dx → RepV K cl G y dy → f dx dy = some d →
  (∀ v H' G', Ext H G H' G' → RepV K cl G' v d → Q v H') → r x y H Q
def mOp2 (f : D → D → Option D) (ga gb : MD) : MD := fun ρ => match ga ρ with
  | some (x, ρ1) => (match gb ρ1 with
    | some (y, ρ2) => (match f x y with
      | some d => some (d, ρ2)
      | none => none)
    | none => none)
  | none => none
theorem mOp2_some {f : D → D → Option D} {ga gb : MD} {ρ ρ' : Rho} {d : D} (h : mOp2 f ga gb ρ = some (d, ρ')) : ∃ x ρ1 y, ga ρ = some (x, ρ1) ∧ gb ρ1 = some (y, ρ') ∧ f x y = some d := by
  unfold mOp2 at h
  split at h
  · rename_i x ρ1 e1
    split at h
    · rename_i y ρ2 e2
      split at h
      · rename_i d' e3
        cases h
        exact ⟨x, ρ1, y, e1, e2, e3⟩
      · cases h
    · cases h
  · cases h
theorem two {ga gb : MD} {r : R2} {f : D → D → Option D} (hr : R2Ok X.K cl r f) {σ : St} {H : Hp} {Q : VK} (h : tD X cl (mOp2 f ga gb) σ H Q) : tD X cl ga σ H fun x H1 => tD X cl gb σ H1 fun y H2 => r x y H2 Q := by
  obtain ⟨G, L, ρ, d, ρ', hs, hg, q⟩ := h
  obtain ⟨x, ρ1, y, e1, e2, e3⟩ := mOp2_some hg
  refine ⟨G, L, ρ, x, ρ1, hs, e1, fun v H1 G1 L1 s1 r1 f1 => ?_⟩
  refine ⟨G1, L1, ρ1, y, ρ', s1, e2, fun u H2 G2 L2 s2 r2 f2 => ?_⟩
  refine hr G2 H2 v u x y d Q s2.le s2.rep.imm (r1.mono f2.le) r2 e3 fun z H3 G3 ex rz => ?_
  obtain ⟨s3, f3⟩ := s2.ext ex
  exact q z H3 G3 L2 s3 rz ((f1.trans f2).trans f3)
theorem sd_bin {op : Operator} {r : R2} {f : D → D → Option D} {ga gb : MD} (ho : OpR X (binaryOp op) r) (hr : R2Ok X.K cl r f) (ha : SD X cl a ga) (hb : SD X cl b gb) : SD X cl (.BinOp a op b pos) (mOp2 f ga gb) :=
  PE.weak (pe_op ho ha hb) fun _ _ _ h => two hr h
theorem sd_cmp {op : CmpOp} {r : R2} {f : D → D → Option D} {ga gb : MD} (ho : OpR X (compareOp op) r) (hr : R2Ok X.K cl r f) (ha : SD X cl a ga) (hb : SD X cl b gb) (hm : behindInMarks op b = false := by rfl) : SD X cl (.Compare a [op] [b] pos) (mOp2 f ga gb) :=
  PE.weak (pe_cmpR ho ha hb hm) fun _ _ _ h => two hr h
theorem sd_ix {r : R2} {f : D → D → Option D} {ga gb : MD} (ho : IxR X r) (hr : R2Ok X.K cl r f) (ha : SD X cl a ga) (hb : SD X cl b gb) (hs : PlainIx b := by exact fun _ _ => rfl) : SD X cl (.Subscript a b pos) (mOp2 f ga gb) :=
  PE.weak (pe_ix ho ha hb hs) fun _ _ _ h => two hr h
def R1Ok (K : PySem.W.Frag) (cl : Cl) (r : V → Hp → VK → Prop) (f : D → Option D) : Prop := ∀ (G H : Hp) (x : V) (dx d : D) (Q : VK), Le G H → (∀ b xs, H b = some (.tup xs) → G b = some (.tup xs)) → RepV K cl G x dx → f dx = some d →
  (∀ v H' G', Ext H G H' G' → RepV K cl G' v d → Q v H') → r x H Q
def mOp1 (f : D → Option D) (ga : MD) : MD := fun ρ => match ga ρ with
  | some (x, ρ1) => (match f x with
    | some d => some (d, ρ1)
    | none => none)
  | none => none
theorem mOp1_some {f : D → Option D} {ga : MD} {ρ ρ' : Rho} {d : D} (h : mOp1 f ga ρ = some (d, ρ')) : ∃ x, ga ρ = some (x, ρ') ∧ f x = some d := by
  unfold mOp1 at h
  split at h
  · rename_i x ρ1 e1
    split at h
    · rename_i d' e3
      cases h
      exact ⟨x, e1, e3⟩
    · cases h
  · cases h
theorem one {ga : MD} {r : V → Hp → VK → Prop} {f : D → Option D} (hr : R1Ok X.K cl r f) {σ : St} {H : Hp} {Q : VK} (h : tD X cl (mOp1 f ga) σ H Q) : tD X cl ga σ H fun x H1 => r x H1 Q := by
  obtain ⟨G, L, ρ, d, ρ', hs, hg, q⟩ := h
  obtain ⟨x, e1, e3⟩ := mOp1_some hg
  refine ⟨G, L, ρ, x, ρ', hs, e1, fun v H1 G1 L1 s1 r1 f1 => ?_⟩
  refine hr G1 H1 v x d Q s1.le s1.rep.imm r1 e3 fun z H3 G3 ex rz => ?_
  obtain ⟨s3, f3⟩ := s1.ext ex
  exact q z H3 G3 L1 s3 rz (f1.trans f3)
theorem sd_un {op : UnaryOp} {r : V → Hp → VK → Prop} {f : D → Option D} {ga : MD} (ho : UnR X (unaryOp op) r) (hr : R1Ok X.K cl r f) (ha : SD X cl a ga) : SD X cl (.UnaryOp op a pos) (mOp1 f ga) :=
  PE.weak (pe_un ho ha) fun _ _ _ h => one hr h

/-! the operators themselves -/
def dInt2 (g : Int → Int → Int) : D → D → Option D
  | .int i, .int j => some (.int (g i j))
  | _, _ => none
def dInt2c (c : Int → Int → Bool) (g : Int → Int → Int) : D → D → Option D
  | .int i, .int j => (match c i j with
    | true => some (.int (g i j))
    | false => none)
  | _, _ => none
def dIntB (g : Int → Int → Bool) : D → D → Option D
  | .int i, .int j => some (.bl (g i j))
  | _, _ => none
theorem ok_int2 {K : PySem.W.Frag} {g : Int → Int → Int} : R2Ok K cl (rI0 fun i j => .int (g i j)) (dInt2 g) := fun G H x y dx dy d Q hle _ rx ry e q => by
  unfold dInt2 at e
  split at e
  · cases e
    cases rx
    cases ry
    exact ⟨_, _, rfl, rfl, q _ _ _ (Ext.refl hle) rfl⟩
  · cases e
theorem ok_intB {K : PySem.W.Frag} {g : Int → Int → Bool} : R2Ok K cl (rI0 fun i j => .bl (g i j)) (dIntB g) := fun G H x y dx dy d Q hle _ rx ry e q => by
  unfold dIntB at e
  split at e
  · cases e
    cases rx
    cases ry
    exact ⟨_, _, rfl, rfl, q _ _ _ (Ext.refl hle) rfl⟩
  · cases e
theorem ok_int2c {K : PySem.W.Frag} {c : Int → Int → Bool} {C : Int → Int → Prop} {g : Int → Int → Int} (hc : ∀ i j, c i j = true → C i j) : R2Ok K cl (rI C fun i j => .int (g i j)) (dInt2c c g) := fun G H x y dx dy d Q hle _ rx ry e q => by
  unfold dInt2c at e
  split at e
  · split at e
    · rename_i z
      cases e
      cases rx
      cases ry
      exact ⟨_, _, rfl, rfl, hc _ _ z, q _ _ _ (Ext.refl hle) rfl⟩
    · cases e
  · cases e
def dAdd := dInt2 fun i j => i + j
def dSub := dInt2 fun i j => i - j
def dMul := dInt2c (fun i j => decide (-(2 ^ 64) < i ∧ i < 2 ^ 64 ∨ -(2 ^ 64) < j ∧ j < 2 ^ 64)) fun i j => i * j
def dFdiv := dInt2c (fun _ j => decide (0 < j ∧ j < 1073741824)) fun i j => i / j
def dMod := dInt2c (fun _ j => decide (0 < j)) fun i j => i % j
def dPow := dInt2c (fun i j => decide (0 ≤ j ∧ j ≤ 1000000 ∧ i.natAbs < 2 ^ 64)) fun i j => i ^ j.toNat
theorem sd_add {ga gb : MD} (ha : SD X cl a ga) (hb : SD X cl b gb) : SD X cl (.BinOp a .Add b pos) (mOp2 dAdd ga gb) := sd_bin op_add ok_int2 ha hb
theorem sd_sub {ga gb : MD} (ha : SD X cl a ga) (hb : SD X cl b gb) : SD X cl (.BinOp a .Sub b pos) (mOp2 dSub ga gb) := sd_bin op_sub ok_int2 ha hb
theorem sd_mul {ga gb : MD} (ha : SD X cl a ga) (hb : SD X cl b gb) : SD X cl (.BinOp a .Mult b pos) (mOp2 dMul ga gb) := sd_bin op_mul (ok_int2c fun i j h => by have h2 := of_decide_eq_true h; exact h2) ha hb
theorem sd_fdiv {ga gb : MD} (ha : SD X cl a ga) (hb : SD X cl b gb) : SD X cl (.BinOp a .FloorDiv b pos) (mOp2 dFdiv ga gb) := sd_bin op_fdiv (ok_int2c fun i j h => by have h2 := of_decide_eq_true h; exact h2) ha hb
theorem sd_mod {ga gb : MD} (ha : SD X cl a ga) (hb : SD X cl b gb) : SD X cl (.BinOp a .Mod b pos) (mOp2 dMod ga gb) := sd_bin op_mod (ok_int2c fun i j h => by have h2 := of_decide_eq_true h; exact h2) ha hb
theorem sd_pow {ga gb : MD} (ha : SD X cl a ga) (hb : SD X cl b gb) : SD X cl (.BinOp a .Pow b pos) (mOp2 dPow ga gb) := sd_bin op_pow (ok_int2c fun i j h => by have h2 := of_decide_eq_true h; exact h2) ha hb
theorem sd_lt {ga gb : MD} (ha : SD X cl a ga) (hb : SD X cl b gb) : SD X cl (.Compare a [.Lt] [b] pos) (mOp2 (dIntB fun i j => decide (i < j)) ga gb) := sd_cmp op_lt ok_intB ha hb (nomark _)
theorem sd_le {ga gb : MD} (ha : SD X cl a ga) (hb : SD X cl b gb) : SD X cl (.Compare a [.LtE] [b] pos) (mOp2 (dIntB fun i j => decide (i ≤ j)) ga gb) := sd_cmp op_le ok_intB ha hb (nomark _)
theorem sd_gt {ga gb : MD} (ha : SD X cl a ga) (hb : SD X cl b gb) : SD X cl (.Compare a [.Gt] [b] pos) (mOp2 (dIntB fun i j => decide (j < i)) ga gb) := sd_cmp op_gt ok_intB ha hb (nomark _)
theorem sd_ge {ga gb : MD} (ha : SD X cl a ga) (hb : SD X cl b gb) : SD X cl (.Compare a [.GtE] [b] pos) (mOp2 (dIntB fun i j => decide (j ≤ i)) ga gb) := sd_cmp op_ge ok_intB ha hb (nomark _)
def dNeg : D → Option D
  | .int i => some (.int (-i))
  | _ => none
theorem sd_neg {ga : MD} (ha : SD X cl a ga) : SD X cl (.UnaryOp .USub a pos) (mOp1 dNeg ga) := sd_un un_neg (fun G H x dx d Q hle _ rx e q => by
  unfold dNeg at e
  split at e
  · cases e
    cases rx
    exact ⟨_, rfl, q _ _ _ (Ext.refl hle) rfl⟩
  · cases e) ha
end
end PI
set_option Elab.async false
set_option linter.all false
set_option maxRecDepth 100000
set_option maxHeartbeats 1000000
set_option autoImplicit false
/-! PI3: hiding roots, arguments, calls. -/
namespace PI
open PySem PySem.Spec L2

section
variable {K : PySem.W.Frag} {cl : Cl} {G G' H H' : Hp} {L L' : Lab} {R R' : Roots} {σ σ' τ : St} {ρ ρ' ω : Rho}

theorem rootsOf_app (hl : σ.length = ρ.length) (i : Nat) : rootsOf (σ ++ τ) (ρ ++ ω) i = if i < ρ.length then rootsOf σ ρ i else rootsOf τ ω (i - ρ.length) := by
  unfold rootsOf
  by_cases h : i < ρ.length
  · rw [if_pos h, List.getElem?_append_left (by omega), List.getElem?_append_left h]
  · rw [if_neg h, List.getElem?_append_right (by omega), List.getElem?_append_right (by omega), hl]
theorem rootsOf_ge {i : Nat} (h : ρ.length ≤ i) : rootsOf σ ρ i = none := by
  unfold rootsOf
  rw [List.getElem?_eq_none h]
  split
  · rename_i e1 e2; cases e2
  · rfl
theorem SRep.of_rep (hl : σ.length = ρ.length) (ha : ∀ (i : Nat) (o : O), ρ[i]? = some (some o) → ∃ v, σ[i]? = some (some v)) (h : RRep K cl H G L R) (e : ∀ i, R i = rootsOf σ ρ i) : SRep K cl σ H G L ρ :=
  ⟨hl, ha, by rw [show rootsOf σ ρ = R from funext fun i => (e i).symm]; exact h⟩

/-- the slots alone, the temporary roots hidden -/
def lowK (n : Nat) : Nat → Option Nat := fun i => if i < n then some i else none
theorem lowK_iff {n : Nat} (i j : Nat) : lowK n i = some j ↔ lowK n j = some i := by
  unfold lowK
  constructor <;> intro h <;> split at h <;> simp_all
theorem lowK_some {n i j : Nat} : lowK n i = some j ↔ i = j ∧ i < n := by
  unfold lowK
  split <;> rename_i h
  · constructor
    · intro e; cases e; exact ⟨rfl, h⟩
    · rintro ⟨rfl, _⟩; rfl
  · constructor
    · intro e; cases e
    · rintro ⟨_, z⟩; exact absurd z h
theorem SRep.low (h : SRep K cl (σ ++ τ) H G L (ρ ++ ω)) (hl : σ.length = ρ.length) : SRep K cl σ H G (subL L (lowK ρ.length)) ρ := by
  refine SRep.of_rep hl (fun i o e => ?_) (h.rep.sub (lowK ρ.length) (lowK ρ.length) lowK_iff) fun i => ?_
  · have hi := (List.getElem?_eq_some_iff.mp e).1
    obtain ⟨v, ev⟩ := h.all i o (by rw [List.getElem?_append_left hi]; exact e)
    exact ⟨v, by rw [List.getElem?_append_left (by omega)] at ev; exact ev⟩
  · unfold lowK
    by_cases hi : i < ρ.length
    · rw [if_pos hi]
      show rootsOf (σ ++ τ) (ρ ++ ω) i = _
      rw [rootsOf_app hl, if_pos hi]
    · rw [if_neg hi, rootsOf_ge (by omega)]
      rfl

/-- more values evaluated beside temporary roots -/
theorem SRep.beside {ν : St} {ξ : Rho} (h : SRep K cl (σ ++ τ) H G L (ρ ++ ω)) (hl : σ.length = ρ.length) (h' : SRep K cl (σ ++ ν) H' G' L' (ρ' ++ ξ)) (hl' : σ.length = ρ'.length) (f : Frame H G (subL L (lowK ρ.length)) H' G' L') :
    ∃ L2, SRep K cl (σ ++ (τ ++ ν)) H' G' L2 (ρ' ++ (ω ++ ξ)) ∧ Frame H G L H' G' L2 := by
  have hn : ρ'.length = ρ.length := by omega
  have hτ : τ.length = ω.length := by have := h.len; simp at this; omega
  have hν : ν.length = ξ.length := by have := h'.len; simp at this; omega
  let n := ρ.length
  let k := ω.length
  let m : Nat → Option Nat := fun i => if i < n then some i else if n + k ≤ i then some (i - k) else none
  let m' : Nat → Option Nat := fun j => if j < n then some j else some (j + k)
  let hid : Nat → Bool := fun i => decide (n ≤ i ∧ i < n + k)
  have hm : ∀ i j, m' j = some i ↔ m i = some j := fun i j => by
    simp only [m, m']
    constructor
    · intro e
      split at e
      · cases e
        rename_i z
        rw [if_pos z]
      · cases e
        rename_i z1
        rw [if_neg (by omega), if_pos (by omega)]
        congr 1
        omega
    · intro e
      split at e
      · cases e
        rename_i z
        rw [if_pos z]
      · split at e
        · cases e
          rename_i z1 z2
          rw [if_neg (by omega)]
          congr 1
          omega
        · cases e
  have hh : ∀ i, hid i = true → lowK n i = none ∧ m i = none := fun i z => by
    have z2 := of_decide_eq_true z
    refine ⟨?_, ?_⟩
    · unfold lowK; rw [if_neg (by omega)]
    · simp only [m]; rw [if_neg (by omega), if_neg (by omega)]
  obtain ⟨r, f2⟩ := h.rep.back (k := lowK n) (k' := lowK n) lowK_iff h'.rep f hid m m' hm hh
  refine ⟨_, SRep.of_rep (by simp; omega) (fun i o e => ?_) r fun i => ?_, f2⟩
  · by_cases h1 : i < n
    · rw [List.getElem?_append_left (by omega)] at e
      obtain ⟨v', e'⟩ := h'.all i o (by rw [List.getElem?_append_left (by omega)]; exact e)
      rw [List.getElem?_append_left (by omega)] at e'
      exact ⟨v', by rw [List.getElem?_append_left (by omega)]; exact e'⟩
    · rw [List.getElem?_append_right (by omega)] at e
      rw [List.getElem?_append_right (by omega)]
      by_cases h2 : i < n + k
      · rw [List.getElem?_append_left (by omega)] at e
        rw [List.getElem?_append_left (by omega)]
        obtain ⟨v', e'⟩ := h.all i o (by rw [List.getElem?_append_right (by omega)]; rw [← hn]; exact e)
        rw [List.getElem?_append_right (by omega)] at e'
        exact ⟨v', e'⟩
      · rw [List.getElem?_append_right (by omega)] at e
        rw [List.getElem?_append_right (by omega)]
        obtain ⟨v', e'⟩ := h'.all (i - k) o (by rw [List.getElem?_append_right (by omega), ← e]; congr 1; omega)
        rw [List.getElem?_append_right (by omega)] at e'
        exact ⟨v', by rw [← e']; congr 1; omega⟩
  · conv => rhs; rw [rootsOf_app hl']
    by_cases h1 : i < n
    · have z : hid i = false := decide_eq_false (by omega)
      simp only [z]
      have : m i = some i := by simp only [m]; rw [if_pos h1]
      rw [this]
      show rootsOf (σ ++ ν) (ρ' ++ ξ) i = _
      rw [rootsOf_app hl', if_pos (by omega), if_pos (by omega)]
    · rw [if_neg (by omega)]
      rw [rootsOf_app hτ]
      by_cases h2 : i < n + k
      · have z : hid i = true := decide_eq_true (by omega)
        simp only [z]
        rw [rootsOf_app hl, if_neg h1, if_pos (by omega)]
        rw [show ρ'.length = ρ.length from hn]
      · have z : hid i = false := decide_eq_false (by omega)
        simp only [z]
        rw [if_neg (by omega)]
        have : m i = some (i - k) := by simp only [m]; rw [if_neg h1, if_pos (by omega)]
        rw [this]
        show rootsOf (σ ++ ν) (ρ' ++ ξ) (i - k) = _
        rw [rootsOf_app hl', if_neg (by omega)]
        congr 1
        omega

/-! ### a call: some roots go along under the callee's numbers, and come back -/
/-- the caller's roots behind a call -/
def backR : Rho → List Nat → Rho → Rho
  | ρ, i :: is, o :: os => backR (ρ.set i o) is os
  | ρ, _, _ => ρ
theorem backR_length : ∀ (is : List Nat) (os : Rho) (ρ : Rho), (backR ρ is os).length = ρ.length
  | [], _, _ => by unfold backR; rfl
  | _ :: _, [], _ => by unfold backR; rfl
  | i :: is, o :: os, ρ => by unfold backR; rw [backR_length is os]; simp
theorem backR_out : ∀ (is : List Nat) (os : Rho) (ρ : Rho) (i : Nat), i ∉ is → (backR ρ is os)[i]? = ρ[i]?
  | [], _, _, _, _ => by unfold backR; rfl
  | _ :: _, [], _, _, _ => by unfold backR; rfl
  | j :: is, o :: os, ρ, i, h => by
    unfold backR
    rw [backR_out is os _ i (fun z => h (List.mem_cons_of_mem _ z))]
    rw [List.getElem?_set_ne (fun z => h (by rw [z]; exact List.mem_cons_self))]
theorem backR_at : ∀ (is : List Nat) (os : Rho) (ρ : Rho) (i j : Nat) (o : Option O), is.Nodup → is[j]? = some i → os[j]? = some o → i < ρ.length → (backR ρ is os)[i]? = some o
  | [], _, _, _, _, _, _, e, _, _ => by simp at e
  | _ :: _, [], _, _, _, _, _, _, e, _ => by simp at e
  | k :: is, o' :: os, ρ, i, 0, o, nd, e1, e2, hi => by
    unfold backR
    simp at e1 e2
    subst e1 e2
    rw [backR_out is os _ k (List.nodup_cons.mp nd).1]
    rw [List.getElem?_set_self hi]
  | k :: is, o' :: os, ρ, i, j + 1, o, nd, e1, e2, hi => by
    unfold backR
    exact backR_at is os _ i j o (List.nodup_cons.mp nd).2 (by simpa using e1) (by simpa using e2) (by simpa using hi)

def srcK (src : List Nat) : Nat → Option Nat := fun j => src[j]?
def srcK' (src : List Nat) : Nat → Option Nat := fun i => src.findIdx? (· == i)
theorem srcK_iff {src : List Nat} (nd : src.Nodup) (i j : Nat) : srcK' src i = some j ↔ srcK src j = some i := by
  unfold srcK srcK'
  constructor
  · intro h
    obtain ⟨hj, e, _⟩ := List.findIdx?_eq_some_iff_getElem.mp h
    rw [List.getElem?_eq_getElem hj]
    simp at e
    rw [e]
  · intro h
    obtain ⟨hj, e⟩ := List.getElem?_eq_some_iff.mp h
    refine List.findIdx?_eq_some_iff_getElem.mpr ⟨hj, by simp [e], fun j' hj' => ?_⟩
    simp only [beq_iff_eq]
    intro z
    have := (List.getElem_inj nd).mp (z.trans e.symm)
    omega

theorem SRep.enter (h : SRep K cl σ H G L ρ) {src : List Nat} (nd : src.Nodup) {vs : List V} {as : List O} (hv : vs.length = src.length) (ha : as.length = src.length)
    (hr : ∀ (j i : Nat), src[j]? = some i → ∃ v o, vs[j]? = some v ∧ as[j]? = some o ∧ rootsOf σ ρ i = some (v, o)) : SRep K cl (vs.map some) H G (subL L (srcK' src)) (as.map some) := by
  refine SRep.of_rep (by simp; omega) (fun i o e => ?_) (h.rep.sub (srcK src) (srcK' src) (srcK_iff nd)) fun j => ?_
  · have hi := (List.getElem?_eq_some_iff.mp e).1
    simp at hi
    exact ⟨vs[i], by simp [List.getElem?_eq_getElem (show i < vs.length by omega)]⟩
  · unfold srcK
    cases e : src[j]? with
    | none =>
      have : src.length ≤ j := List.getElem?_eq_none_iff.mp e
      rw [rootsOf_ge (by simp; omega)]
      rfl
    | some i =>
      obtain ⟨v, o, e1, e2, e3⟩ := hr j i e
      show rootsOf σ ρ i = _
      rw [e3]
      exact (rootsOf_some.mpr ⟨by simp [e1], by simp [e2]⟩).symm

theorem SRep.leave (h : SRep K cl (σ ++ τ) H G L (ρ ++ ω)) (hl : σ.length = ρ.length) {src : List Nat} (nd : src.Nodup) {vs : List V} {as' : Rho} (ha' : as'.length = src.length) (hv : vs.length = src.length)
    (hsv : ∀ (j i : Nat), src[j]? = some i → i < ρ.length → ∃ v, vs[j]? = some v ∧ σ[i]? = some (some v)) {v : V} {r : O}
    (h' : SRep K cl (vs.map some ++ [some v]) H' G' L' (as' ++ [some r])) (f : Frame H G (subL L (srcK' src)) H' G' L') :
    ∃ L2, SRep K cl (σ ++ [some v]) H' G' L2 (backR ρ src as' ++ [some r]) ∧ Frame H G L H' G' L2 := by
  let n := ρ.length
  let p := src.length
  let m : Nat → Option Nat := fun i => if i < n then srcK' src i else if i = n then some p else none
  let m' : Nat → Option Nat := fun j => if j < p then (match src[j]? with
    | some i => if i < n then some i else none
    | none => none) else if j = p then some n else none
  let hid : Nat → Bool := fun i => decide (i < n) && (srcK' src i).isNone
  have bl : (backR ρ src as').length = n := backR_length _ _ _
  have hm : ∀ i j, m' j = some i ↔ m i = some j := fun i j => by
    simp only [m, m']
    constructor
    · intro e
      split at e
      · split at e
        · rename_i i' e1
          split at e
          · rename_i z
            cases e
            rw [if_pos z]
            exact (srcK_iff nd i j).mpr e1
          · cases e
        · cases e
      · split at e
        · rename_i z
          cases e
          rw [if_neg (Nat.lt_irrefl _), if_pos rfl, z]
        · cases e
    · intro e
      split at e
      · rename_i z
        have e1 := (srcK_iff nd i j).mp e
        unfold srcK at e1
        have hj := (List.getElem?_eq_some_iff.mp e1).1
        rw [if_pos (show j < p from hj), e1]
        simp only [if_pos z]
      · split at e
        · rename_i z
          cases e
          rw [if_neg (Nat.lt_irrefl _), if_pos rfl, z]
        · cases e
  have hh : ∀ i, hid i = true → srcK' src i = none ∧ m i = none := fun i z => by
    simp only [hid, Bool.and_eq_true, decide_eq_true_eq, Option.isNone_iff_eq_none] at z
    refine ⟨z.2, ?_⟩
    simp only [m]
    rw [if_pos z.1]
    exact z.2
  obtain ⟨rr, f2⟩ := h.rep.back (k := srcK src) (k' := srcK' src) (srcK_iff nd) h'.rep f hid m m' hm hh
  have at_ : ∀ (i j : Nat), src[j]? = some i → i < n → ∃ v o, vs[j]? = some v ∧ σ[i]? = some (some v) ∧ as'[j]? = some o ∧ (backR ρ src as')[i]? = some o := fun i j e hi => by
    obtain ⟨v1, e1, e2⟩ := hsv j i e hi
    have hj := (List.getElem?_eq_some_iff.mp e).1
    have e3 : as'[j]? = some as'[j] := List.getElem?_eq_getElem (by omega)
    exact ⟨v1, _, e1, e2, e3, backR_at src as' ρ i j _ nd e e3 hi⟩
  refine ⟨_, SRep.of_rep (by simp; omega) (fun i o e => ?_) rr fun i => ?_, f2⟩
  · rw [get_app] at e ⊢
    rw [bl] at e
    split at e
    · rename_i hi
      rw [if_pos (by omega)]
      cases q : srcK' src i with
      | none =>
        have : i ∉ src := fun z => by
          have := List.findIdx?_eq_none_iff.mp q i z
          simp at this
        rw [backR_out _ _ _ _ this] at e
        obtain ⟨v', e'⟩ := h.all i o (by rw [List.getElem?_append_left hi]; exact e)
        exact ⟨v', by rw [List.getElem?_append_left (by omega)] at e'; exact e'⟩
      | some j =>
        obtain ⟨v1, o1, _, e2, _, _⟩ := at_ i j ((srcK_iff nd i j).mp q) hi
        exact ⟨v1, e2⟩
    · split at e
      · rename_i z
        rw [if_neg (by omega), if_pos (by omega)]
        exact ⟨v, rfl⟩
      · cases e
  · conv => rhs; rw [rootsOf_app (by omega), bl]
    by_cases hi : i < n
    · rw [if_pos hi]
      cases q : srcK' src i with
      | none =>
        have z : hid i = true := by
          simp only [hid, q, Option.isNone_none, Bool.and_true]
          exact decide_eq_true hi
        simp only [z]
        rw [rootsOf_app hl, if_pos hi]
        have : i ∉ src := fun z => by
          have := List.findIdx?_eq_none_iff.mp q i z
          simp at this
        unfold rootsOf
        rw [backR_out _ _ _ _ this]
      | some j =>
        have z : hid i = false := by
          simp only [hid, q, Option.isNone_some, Bool.and_false]
        have em : m i = some j := by simp only [m]; rw [if_pos hi]; exact q
        simp only [z, em, Option.bind_some]
        obtain ⟨v1, o1, e1, e2, e3, e4⟩ := at_ i j ((srcK_iff nd i j).mp q) hi
        have hj := (List.getElem?_eq_some_iff.mp e1).1
        rw [rootsOf_app (by first | omega | (simp; omega)), if_pos (by first | omega | (simp; omega))]
        unfold rootsOf
        rw [e2, e4, e3]
        have : (vs.map some)[j]? = some (some v1) := by simp [e1]
        rw [this]
    · rw [if_neg hi]
      have z : hid i = false := by
        simp only [hid]
        rw [decide_eq_false hi]
        rfl
      simp only [z]
      by_cases h2 : i = n
      · have em : m i = some p := by simp only [m]; rw [if_neg hi, if_pos h2]
        simp only [em, Option.bind_some]
        rw [rootsOf_app (by first | omega | (simp; omega)), if_neg (by first | omega | (simp; omega))]
        congr 1
        first | omega | (simp; omega)
      · have em : m i = none := by simp only [m]; rw [if_neg hi, if_neg h2]
        simp only [em, Option.bind_none]
        rw [rootsOf_ge (by simp; omega)]
end
end PI
set_option Elab.async false
set_option linter.all false
set_option maxRecDepth 100000
set_option maxHeartbeats 1000000
set_option autoImplicit false
/-! PI4: argument lists, calls, displays. -/
namespace PI
open PySem PySem.Spec L2

/-- a def's meaning: its arguments' trees; what it hands back, and the arguments' trees behind -/
abbrev Fn := List O → Option (O × Rho)
/-- the promise of a def -/
def spOf (K : PySem.W.Frag) (cl : Cl) (fn : Fn) : Sp := fun vs H Q _ => ∃ G L as r as', SRep K cl (vs.map some) H G L (as.map some) ∧ fn as = some (r, as') ∧ as'.length = as.length ∧
  ∀ v H' G' L', SRep K cl (vs.map some ++ [some v]) H' G' L' (as' ++ [some r]) → Frame H G L H' G' L' → Q v H'

/-- which arguments are names whose tree goes along (their slots) -/
abbrev Lends := List (Option Nat)
abbrev MA := Rho → Option (Rho × Rho)
section
variable (X : Cx) (cl : Cl)
def tArgs (ks : Lends) (f : MA) : TA := fun σ H Q => ∃ G L ρ ω ρ', SRep X.K cl σ H G L ρ ∧ f ρ = some (ω, ρ') ∧ ∀ vs H' G' L', SRep X.K cl (σ ++ vs.map some) H' G' L' (ρ' ++ ω) → ρ'.length = ρ.length →
  (∀ (k i : Nat), ks[k]? = some (some i) → ∃ v, vs[k]? = some v ∧ σ[i]? = some (some v)) → Frame H G L H' G' L' → Q vs H'
def SA (es : List Expr) (ks : Lends) (f : MA) : Prop := PA X es (tArgs X cl ks f)
end
section
variable {X : Cx} {cl : Cl} {e a b c : Expr} {es : List Expr} {pos : Pos}
theorem PA.weak {t t' : TA} (h : PA X es t) (w : ∀ σ H Q, t' σ H Q → t σ H Q) : PA X es t' := ⟨fun pos pins s σ H Q I q => h.run pos pins s σ H Q I (w σ H Q q)⟩
def aNil : MA := fun ρ => some ([], ρ)
theorem sa_nil : SA X cl [] [] aNil := PA.weak pa_nil fun σ H Q ⟨G, L, ρ, ω, ρ', hs, hg, q⟩ => by
  cases hg
  exact q [] H G L (by simpa using hs) rfl (fun k i h => by simp at h) Frame.refl
def aCons (g : MO) (f : MA) : MA := fun ρ => match g ρ with
  | some (o, ρ1) => (match f ρ1 with
    | some (ω, ρ2) => some (some o :: ω, ρ2)
    | none => none)
  | none => none
theorem sa_cons {g : MO} {ks : Lends} {f : MA} (he : SO X cl e g) (hr : SA X cl es ks f) (hs : starEach (e :: es) X.env = (false, eval e X.env) :: starEach es X.env := by rfl) : SA X cl (e :: es) (none :: ks) (aCons g f) :=
  PA.weak (pa_cons he hr hs) fun σ H Q ⟨G, L, ρ, ω, ρ', hs, hg, q⟩ => by
    unfold aCons at hg
    split at hg
    · rename_i o ρ1 e1
      split at hg
      · rename_i ω2 ρ2 e2
        cases hg
        refine ⟨G, L, ρ, o, ρ1, hs, e1, fun x H1 G1 L1 s1 f1 => ?_⟩
        have l1 : σ.length = ρ1.length := by simpa using s1.len
        refine ⟨G1, _, ρ1, ω2, _, s1.low l1, e2, fun vs H2 G2 L2 s2 n2 le2 f2 => ?_⟩
        obtain ⟨L3, s3, f3⟩ := s1.beside l1 s2 (by omega) f2
        refine q (x :: vs) H2 G2 L3 (by simpa using s3) (by have := hs.len; omega) (fun k i h => ?_) (f1.trans f3)
        cases k with
        | zero => simp at h
        | succ k =>
          obtain ⟨v, h1, h2⟩ := le2 k i (by simpa using h)
          exact ⟨v, by simpa using h1, h2⟩
      · cases hg
    · cases hg
def aLend (i : Nat) (f : MA) : MA := fun ρ => match ρ[i]? with
  | some (some _) => (match f ρ with
    | some (ω, ρ2) => some (none :: ω, ρ2)
    | none => none)
  | _ => none
theorem sa_lend (i : Nat) {x : Str} {p : Pos} {ks : Lends} {f : MA} (h : PE X (.Name x p) (tVar i)) (hr : SA X cl es ks f) : SA X cl (.Name x p :: es) (some i :: ks) (aLend i f) :=
  PA.weak (pa_cons h hr) fun σ H Q ⟨G, L, ρ, ω, ρ', hs, hg, q⟩ => by
    unfold aLend at hg
    split at hg
    · rename_i o e1
      split at hg
      · rename_i ω2 ρ2 e2
        cases hg
        obtain ⟨v, ev⟩ := hs.all i o e1
        refine ⟨v, ev, G, _, ρ, ω2, _, hs, e2, fun vs H2 G2 L2 s2 n2 le2 f2 => ?_⟩
        -- the name's value stands beside as a root without a tree
        have s0 : SRep X.K cl (σ ++ [some v]) H G L (ρ ++ [none]) := by
          refine ⟨by simp [hs.len], fun j o' e' => ?_, ?_⟩
          · rw [get_app] at e' ⊢
            rw [hs.len]
            split at e'
            · rename_i z
              rw [if_pos z]
              exact hs.all j o' e'
            · split at e' <;> cases e'
          · have : rootsOf (σ ++ [some v]) (ρ ++ [none]) = rootsOf σ ρ := by
              funext j
              rw [rootsOf_app hs.len]
              split
              · rfl
              · rename_i z
                have e9 : rootsOf σ ρ j = none := rootsOf_ge (by omega)
                rw [e9]
                cases q : j - ρ.length with
                | zero => rfl
                | succ n => rfl
            rw [this]
            exact hs.rep
        have f0 : Frame H G (subL L (lowK ρ.length)) H2 G2 L2 := by
          refine ⟨fun b y hb hl => f2.keep b y hb ?_, f2.le⟩
          cases q : L b with
          | none => rfl
          | some p =>
            exfalso
            obtain ⟨j, r, rfl, hj⟩ := hs.rep.own b p q
            obtain ⟨⟨v1, o1⟩, e3⟩ := Option.isSome_iff_exists.mp hj
            have hlt : j < ρ.length := (List.getElem?_eq_some_iff.mp (rootsOf_some.mp e3).2).1
            rw [subL_of q (lowK_some.mpr ⟨rfl, hlt⟩)] at hl
            exact nomatch hl
        obtain ⟨L3, s3, f3⟩ := s0.beside hs.len s2 (by have := hs.len; omega) f0
        refine q (v :: vs) H2 G2 L3 (by simpa using s3) n2 (fun k j h => ?_) f3
        cases k with
        | zero =>
          simp at h
          subst h
          exact ⟨v, by simp, ev⟩
        | succ k =>
          obtain ⟨v', h1, h2⟩ := le2 k j (by simpa using h)
          exact ⟨v', by simpa using h1, h2⟩
      · cases hg
    · cases hg

/-! ### calls -/
/-- the arguments' trees -/
def gather : Lends → Rho → Rho → Option (List O)
  | [], [], _ => some []
  | none :: ks, some o :: ω, ρ => (match gather ks ω ρ with
    | some os => some (o :: os)
    | none => none)
  | some i :: ks, none :: ω, ρ => (match ρ[i]? with
    | some (some o) => (match gather ks ω ρ with
      | some os => some (o :: os)
      | none => none)
    | _ => none)
  | _, _, _ => none
/-- the caller's slots behind the call -/
def setL : Lends → Rho → Rho → Rho
  | none :: ks, _ :: os, ρ => setL ks os ρ
  | some i :: ks, o :: os, ρ => setL ks os (ρ.set i o)
  | _, _, ρ => ρ
def mCall (fn : Fn) (ks : Lends) (f : MA) : MO := fun ρ => match f ρ with
  | some (ω, ρ1) => (match gather ks ω ρ1 with
    | some as => (match fn as with
      | some (r, as') => (match decide (as'.length = as.length) with
        | true => some (r, setL ks as' ρ1)
        | false => none)
      | none => none)
    | none => none)
  | none => none
def lendOk : Lends → Bool
  | [] => true
  | none :: ks => lendOk ks
  | some i :: ks => !ks.contains (some i) && lendOk ks
def srcOf (n : Nat) : Nat → Lends → List Nat
  | _, [] => []
  | k, none :: ks => (n + k) :: srcOf n (k + 1) ks
  | k, some i :: ks => i :: srcOf n (k + 1) ks
theorem srcOf_length (n : Nat) : ∀ (k : Nat) (ks : Lends), (srcOf n k ks).length = ks.length
  | _, [] => rfl
  | k, none :: ks => by simp [srcOf, srcOf_length n (k + 1) ks]
  | k, some i :: ks => by simp [srcOf, srcOf_length n (k + 1) ks]
theorem srcOf_mem {n i : Nat} : ∀ (k : Nat) (ks : Lends), i ∈ srcOf n k ks → some i ∈ ks ∨ n + k ≤ i
  | _, [], h => by simp [srcOf] at h
  | k, none :: ks, h => by
    simp only [srcOf, List.mem_cons] at h
    rcases h with h | h
    · exact .inr (by omega)
    · rcases srcOf_mem (k + 1) ks h with z | z
      · exact .inl (List.mem_cons_of_mem _ z)
      · exact .inr (by omega)
  | k, some j :: ks, h => by
    simp only [srcOf, List.mem_cons] at h
    rcases h with h | h
    · exact .inl (by rw [h]; exact List.mem_cons_self)
    · rcases srcOf_mem (k + 1) ks h with z | z
      · exact .inl (List.mem_cons_of_mem _ z)
      · exact .inr (by omega)
theorem srcOf_nodup {n : Nat} : ∀ (k : Nat) (ks : Lends), lendOk ks = true → (∀ i, some i ∈ ks → i < n) → (srcOf n k ks).Nodup
  | _, [], _, _ => List.nodup_nil
  | k, none :: ks, h, hn => by
    refine List.nodup_cons.mpr ⟨fun z => ?_, srcOf_nodup (k + 1) ks h fun i hi => hn i (List.mem_cons_of_mem _ hi)⟩
    rcases srcOf_mem (k + 1) ks z with y | y
    · have := hn _ (List.mem_cons_of_mem _ y); omega
    · omega
  | k, some i :: ks, h, hn => by
    simp only [lendOk, Bool.and_eq_true] at h
    refine List.nodup_cons.mpr ⟨fun z => ?_, srcOf_nodup (k + 1) ks h.2 fun j hj => hn j (List.mem_cons_of_mem _ hj)⟩
    rcases srcOf_mem (k + 1) ks z with y | y
    · have h1 := h.1
      simp at h1
      exact h1 y
    · have := hn i List.mem_cons_self; omega
theorem gather_spec : ∀ (ks : Lends) (ω ρ : Rho) (as : List O), gather ks ω ρ = some as → as.length = ks.length ∧ ω.length = ks.length ∧ (∀ i, some i ∈ ks → i < ρ.length) ∧
    ∀ (n k j : Nat), n = ρ.length → ∀ i, (srcOf n k ks)[j]? = some i → ∃ o, as[j]? = some o ∧ ((i < n ∧ ks[j]? = some (some i) ∧ ρ[i]? = some (some o)) ∨ (i = n + k + j ∧ ks[j]? = some none ∧ ω[j]? = some (some o)))
  | [], [], _, as, h => by
    cases h
    exact ⟨rfl, rfl, fun i z => by simp at z, fun n k j _ i z => by simp [srcOf] at z⟩
  | none :: ks, some o :: ω, ρ, as, h => by
    unfold gather at h
    split at h
    · rename_i os e
      cases h
      obtain ⟨h1, h2, h3, h4⟩ := gather_spec ks ω ρ os e
      refine ⟨by simp [h1], by simp [h2], fun i z => h3 i (by simpa using z), fun n k j hn i z => ?_⟩
      cases j with
      | zero =>
        simp [srcOf] at z
        exact ⟨o, by simp, .inr ⟨by omega, by simp, by simp⟩⟩
      | succ j =>
        obtain ⟨o', e1, e2⟩ := h4 n (k + 1) j hn i (by simpa [srcOf] using z)
        refine ⟨o', by simpa using e1, ?_⟩
        rcases e2 with ⟨y1, y2, y3⟩ | ⟨y1, y2, y3⟩
        · exact .inl ⟨y1, by simpa using y2, y3⟩
        · exact .inr ⟨by omega, by simpa using y2, by simpa using y3⟩
    · cases h
  | some l :: ks, none :: ω, ρ, as, h => by
    unfold gather at h
    split at h
    · rename_i o e0
      split at h
      · rename_i os e
        cases h
        have hl := (List.getElem?_eq_some_iff.mp e0).1
        obtain ⟨h1, h2, h3, h4⟩ := gather_spec ks ω ρ os e
        refine ⟨by simp [h1], by simp [h2], fun i z => ?_, fun n k j hn i z => ?_⟩
        · rcases List.mem_cons.mp z with y | y
          · cases y; exact hl
          · exact h3 i y
        · cases j with
          | zero =>
            simp [srcOf] at z
            subst z
            exact ⟨o, by simp, .inl ⟨by omega, by simp, e0⟩⟩
          | succ j =>
            obtain ⟨o', e1, e2⟩ := h4 n (k + 1) j hn i (by simpa [srcOf] using z)
            refine ⟨o', by simpa using e1, ?_⟩
            rcases e2 with ⟨y1, y2, y3⟩ | ⟨y1, y2, y3⟩
            · exact .inl ⟨y1, by simpa using y2, y3⟩
            · exact .inr ⟨by omega, by simpa using y2, by simpa using y3⟩
      · cases h
    · cases h
  | [], _ :: _, _, _, h => by simp [gather] at h
  | none :: _, [], _, _, h => by simp [gather] at h
  | none :: _, none :: _, _, _, h => by simp [gather] at h
  | some _ :: _, [], _, _, h => by simp [gather] at h
  | some _ :: _, some _ :: _, _, _, h => by simp [gather] at h
theorem setL_back {n : Nat} : ∀ (ks : Lends) (os : Rho) (ρ : Rho) (k : Nat), n = ρ.length → os.length = ks.length → backR ρ (srcOf n k ks) os = setL ks os ρ
  | [], os, ρ, _, _, _ => by simp [srcOf, backR, setL]
  | none :: ks, [], ρ, _, _, h => by simp at h
  | some _ :: ks, [], ρ, _, _, h => by simp at h
  | none :: ks, o :: os, ρ, k, hn, h => by
    simp only [srcOf, backR, setL]
    rw [List.set_eq_of_length_le (by omega)]
    exact setL_back ks os ρ (k + 1) hn (by simpa using h)
  | some i :: ks, o :: os, ρ, k, hn, h => by
    simp only [srcOf, backR, setL]
    exact setL_back ks os _ (k + 1) (by simpa using hn) (by simpa using h)

/-- the def that the name x stands for -/
structure Callee (P : Program) (w : World) (K : PySem.W.Frag) (mg : Str → Option Value) (base : Heap) (A : Around) (cl : Cl) (x : Str) (fn : Fn) : Prop where
  ex : ∃ f fd ps k, FnOk P w K mg base CX0 k f fd ps (spOf K cl fn) ∧ Room k A ∧ mg x = some (.ref f) ∧ PySem.W.keepIn K (.ref f) = true ∧ Binds K fd ps []
theorem called {fn : Fn} {ks : Lends} {f : MA} (hk : lendOk ks = true) {σ : St} {H : Hp} {Q : VK} {E : XK} (h : tO X cl (mCall fn ks f) σ H Q) : tArgs X cl ks f σ H fun vs H1 => spOf X.K cl fn (vs ++ []) H1 Q E := by
  obtain ⟨G, L, ρ, o, ρ', hs, hg, q⟩ := h
  unfold mCall at hg
  split at hg
  · rename_i ω ρ1 e1
    split at hg
    · rename_i as e2
      split at hg
      · rename_i r as' e3
        split at hg
        · rename_i e4
          cases hg
          have e4 := of_decide_eq_true e4
          refine ⟨G, L, ρ, ω, ρ1, hs, e1, fun vs H1 G1 L1 s1 n1 le1 f1 => ?_⟩
          show spOf X.K cl fn (vs ++ []) H1 Q E
          rw [List.append_nil]
          have l1 : σ.length = ρ1.length := by have := hs.len; omega
          obtain ⟨g1, g2, g3, g4⟩ := gather_spec ks ω ρ1 as e2
          have nd := srcOf_nodup (n := ρ1.length) 0 ks hk g3
          have hv : vs.length = ks.length := by have := s1.len; simp at this; omega
          have sl := srcOf_length ρ1.length 0 ks
          have key : ∀ (j i : Nat), (srcOf ρ1.length 0 ks)[j]? = some i → ∃ v o, vs[j]? = some v ∧ as[j]? = some o ∧ rootsOf (σ ++ vs.map some) (ρ1 ++ ω) i = some (v, o) ∧ (i < ρ1.length → σ[i]? = some (some v)) := fun j i z => by
            obtain ⟨o, a1, a2⟩ := g4 ρ1.length 0 j rfl i z
            rcases a2 with ⟨b1, b2, b3⟩ | ⟨b1, b2, b3⟩
            · obtain ⟨v, c1, c2⟩ := le1 j i b2
              exact ⟨v, o, c1, a1, rootsOf_some.mpr ⟨by rw [List.getElem?_append_left (by omega)]; exact c2, by rw [List.getElem?_append_left b1]; exact b3⟩, fun _ => c2⟩
            · have hj : j < vs.length := by
                have := (List.getElem?_eq_some_iff.mp z).1
                omega
              refine ⟨vs[j], o, List.getElem?_eq_getElem hj, a1, rootsOf_some.mpr ⟨?_, ?_⟩, fun y => by omega⟩
              · rw [List.getElem?_append_right (by omega), show i - σ.length = j by omega]
                simp [List.getElem?_eq_getElem hj]
              · rw [List.getElem?_append_right (by omega), show i - ρ1.length = j by omega]
                exact b3
          refine ⟨G1, _, as, _, as', s1.enter nd (by omega) (by omega) (fun j i z => ?_), e3, e4, fun v H2 G2 L2 s2 f2 => ?_⟩
          · obtain ⟨v, o, c1, c2, c3, _⟩ := key j i z
            exact ⟨v, o, c1, c2, c3⟩
          · obtain ⟨L3, s3, f3⟩ := s1.leave l1 nd (by omega) (by omega) (fun j i z y => by
              obtain ⟨v, o, c1, _, _, c4⟩ := key j i z
              exact ⟨v, c1, c4 y⟩) s2 f2
            rw [setL_back ks as' ρ1 0 rfl (by omega)] at s3
            exact q v H2 G2 L3 s3 (f1.trans f3)
        · cases hg
      · cases hg
    · cases hg
  · cases hg
theorem so_call {x : Str} {p : Pos} {fn : Fn} {ks : Lends} {f : MA} (C : Callee X.prog X.w X.K X.mg X.base X.A cl x fn) (hk : lendOk ks = true) (ha : SA X cl (e :: es) ks f) (hg : Gl X x := by rfl) (hdb : (x == ("__debug__" : Str)) = false := by decide)
    (he : starEach (e :: es) X.env = (false, eval e X.env) :: starEach es X.env := by rfl) (hpl : (backTo pos (starEach es X.env)).any (·.1) = false := by rfl) : SO X cl (.Call (.Name x p) (e :: es) [] pos) (mCall fn ks f) := by
  obtain ⟨a, fd, ps, k, F, hr, hm, kp, hb⟩ := C.ex
  exact PE.weak (pe_call F hr hg hm kp hb .nil pass0 ha hdb he hpl) fun σ H Q h => called hk h

/-! ### displays -/
def allO : Rho → Option (List O)
  | [] => some []
  | some o :: ω => (match allO ω with
    | some os => some (o :: os)
    | none => none)
  | none :: _ => none
theorem allO_some : ∀ {ω : Rho} {os : List O}, allO ω = some os → ω = os.map some
  | [], _, h => by cases h; rfl
  | some o :: ω, os, h => by
    unfold allO at h
    split at h
    · rename_i os' e
      cases h
      rw [allO_some e]
      rfl
    · cases h
  | none :: _, _, h => by simp [allO] at h
end
end PI
set_option Elab.async false
set_option linter.all false
set_option maxRecDepth 100000
set_option maxHeartbeats 4000000
set_option autoImplicit false
/-! PI5: operators on texts and tuples, equality, displays, built-ins. -/
namespace PI
section
open PySem PySem.Spec PyProof.Rows L2
/-- a tuple times 1 is itself -/
theorem tuple_mul1 (l : Addr) (items : Array Value) (n : Nat) (dd : Option Addr) (sl : Array (Option Value)) (x : Int) (u : Tok) (c0 : (decide (x < -(2 ^ 63)) || decide (x ≥ 2 ^ 63)) = false) (c1 : (items.isEmpty || x == 1) = true) :
    Meets (Builtin.«tuple.__mul__» ⟨[.ref l, .int x u], []⟩) (fun _ R s => s.heap.get? l = some { cls := .type "tuple", dict := dd, data := .seq items n, slots := sl } ∧ R (.ok (.ret (Value.ref l))) s) :=
  .of_wp fun prog w A R s h => by
    obtain ⟨hp, g, d, tk, os⟩ := s
    obtain ⟨hl, h⟩ := h
    have f1 := AutoSeq1.idx_int
    wp_walk using PySem.AutoSeq1.wpAny_loadPart' hl
    repeat (first
      | (refine wpAny_ite_false (decide_eq_false (by rw [c0]; exact Bool.false_ne_true)) ?_; wp_walk using PySem.AutoSeq1.wpAny_loadPart' hl)
      | (refine wpAny_ite_true (decide_eq_true c1) ?_; wp_walk using PySem.AutoSeq1.wpAny_loadPart' hl))
    exact ⟨_, rfl, h⟩
/-- a tuple that is not empty times 0 -/
theorem tuple_mul0 (l : Addr) (items : Array Value) (n : Nat) (dd : Option Addr) (sl : Array (Option Value)) (x : Int) (u : Tok) (c0 : (decide (x < -(2 ^ 63)) || decide (x ≥ 2 ^ 63)) = false) (c1 : (items.isEmpty || x == 1) = false) (c2 : (decide (x ≤ 0) || items.isEmpty) = true) :
    Meets (Builtin.«tuple.__mul__» ⟨[.ref l, .int x u], []⟩) (fun _ R s => s.heap.get? l = some { cls := .type "tuple", dict := dd, data := .seq items n, slots := sl } ∧
      R (.ok (.ret (Value.ref s.heap.objs.size))) { s with heap := s.heap.push { cls := Value.type "tuple", data := Data.seq #[] }, toks := s.toks }) :=
  .of_wp fun prog w A R s h => by
    obtain ⟨hp, g, d, tk, os⟩ := s
    obtain ⟨hl, h⟩ := h
    have f1 := AutoSeq1.idx_int
    wp_walk using PySem.AutoSeq1.wpAny_loadPart' hl
    repeat (first
      | (refine wpAny_ite_false (decide_eq_false (by rw [c0]; exact Bool.false_ne_true)) ?_; wp_walk using PySem.AutoSeq1.wpAny_loadPart' hl)
      | (refine wpAny_ite_false (decide_eq_false (by rw [c1]; exact Bool.false_ne_true)) ?_; wp_walk using PySem.AutoSeq1.wpAny_loadPart' hl)
      | (refine wpAny_ite_true (decide_eq_true c2) ?_; wp_walk using PySem.AutoSeq1.wpAny_loadPart' hl))
    exact ⟨_, rfl, h⟩
def rRepA (K : PySem.W.Frag) : R2 := fun x y H Q => ∃ l k xs, x = .ref l ∧ y = .int k ∧ SqT K H l xs ∧ k ≤ 1000 ∧ -1000 ≤ k ∧ xs.length ≤ 1000 ∧ ((xs = [] ∨ k = 1) → Q (.ref l) H) ∧ (xs ≠ [] → k ≠ 1 → ∀ p, H p = none → Q (.ref p) (upd H p (.tup (List.replicate k.toNat xs).flatten)))
theorem op_repA {X : Cx} : OpR X (binaryOp .Mult) (rRepA X.K) := by
  intro pins s σ H x y v u Q I rx ry h
  obtain ⟨l, k, xs, rfl, rfl, hT, h1, h0, hz, q1, q2⟩ := h
  by_cases hne : xs ≠ [] ∧ 2 ≤ k
  · exact op_repT pins s σ H (.ref l) (.int k) v u Q I rx ry ⟨l, k, xs, rfl, rfl, hT, hne.1, hne.2, h1, hz, q2 hne.1 (by omega)⟩
  cases rx
  obtain ⟨t, rfl⟩ := ry
  obtain ⟨its, r, ⟨⟨cls, dd, data, sl⟩, ho, hc, n, hd⟩, hs⟩ := I.tuple hT
  simp only at hc hd
  subst hc hd
  have hle : its.length = xs.length := r.length.symm
  have c0 : (decide (k < -(2 ^ 63)) || decide (k ≥ 2 ^ 63)) = false := by
    rw [decide_eq_false (by omega), decide_eq_false (by omega)] <;> rfl
  have hemp : its.toArray.isEmpty = decide (xs = []) := by
    cases xs with
    | nil =>
      have : its = [] := List.eq_nil_of_length_eq_zero (by simpa using hle)
      subst this
      rfl
    | cons a b =>
      cases its with
      | nil => simp at hle
      | cons c d => rfl
  by_cases e : xs = [] ∨ k = 1
  · have c1 : (its.toArray.isEmpty || k == 1) = true := by
      rw [hemp]
      rcases e with e | e
      · rw [decide_eq_true e] <;> rfl
      · rw [e]; simp
    refine wpAny_binaryOp_repeat_ref (T := "tuple") (U := "int") (by decide) ⟨_, ho, rfl⟩ (fun s' => typeIs_int s' k t) noFill_tuple_mul F.fills_int_mul F.slot_int_rmul repeat_tuple F.slot_int_index.lookup
      (call_meets F.slot_int_rmul (typeIs_int s k t) F.entry_int_rmul (F.args_int_rmul_2 _ _) (int_rmul_tuple k t l its.toArray n dd sl)
        ⟨ho, rfl, ⟨_, ho, rfl⟩, call_meets F.slot_tuple_mul ⟨_, ho, rfl⟩ F.entry_tuple_mul (F.args_tuple_mul_2 _ _) (tuple_mul1 l its.toArray n dd sl k t c0 c1) ⟨ho, ?_⟩⟩)
    exact ⟨.ref l, H, I, rfl, q1 e⟩
  · have e1 : xs ≠ [] := fun z => e (.inl z)
    have e2 : k ≠ 1 := fun z => e (.inr z)
    have hk : k ≤ 0 := by
      have : ¬ 2 ≤ k := fun z => hne ⟨e1, z⟩
      omega
    have c1 : (its.toArray.isEmpty || k == 1) = false := by
      rw [hemp, decide_eq_false e1, Bool.false_or]
      exact beq_eq_false_iff_ne.mpr e2
    have c2 : (decide (k ≤ 0) || its.toArray.isEmpty) = true := by
      rw [decide_eq_true hk] <;> rfl
    refine wpAny_binaryOp_repeat_ref (T := "tuple") (U := "int") (by decide) ⟨_, ho, rfl⟩ (fun s' => typeIs_int s' k t) noFill_tuple_mul F.fills_int_mul F.slot_int_rmul repeat_tuple F.slot_int_index.lookup
      (call_meets F.slot_int_rmul (typeIs_int s k t) F.entry_int_rmul (F.args_int_rmul_2 _ _) (int_rmul_tuple k t l its.toArray n dd sl)
        ⟨ho, rfl, ⟨_, ho, rfl⟩, call_meets F.slot_tuple_mul ⟨_, ho, rfl⟩ F.entry_tuple_mul (F.args_tuple_mul_2 _ _) (tuple_mul0 l its.toArray n dd sl k t c0 c1 c2) ⟨ho, ?_⟩⟩)
    have q := q2 e1 e2 s.heap.objs.size (I.hok.fresh (Nat.le_refl _))
    rw [show k.toNat = 0 by omega] at q
    refine ⟨.ref s.heap.objs.size, _, I.laid (t' := s.toks) (o := .tup []) (fun b ob q => Heap.get?_push_of_some _ q) (Nat.le_refl _) ?_, rfl, q⟩
    exact ⟨Nat.zero_le _, [], .nil, IsTup.new _ _⟩
end
end PI
set_option Elab.async false
set_option linter.all false
set_option maxRecDepth 100000
set_option maxHeartbeats 1000000
set_option autoImplicit false
/-! PI6: reading without taking; operators, displays, built-ins on frozen data. -/
namespace PI
open PySem PySem.Spec L2

mutual
def D.imm : D → Bool
  | .non => true
  | .bl _ => true
  | .int _ => true
  | .str _ => true
  | .tup ds => D.imms ds
  | _ => false
def D.imms : List D → Bool
  | [] => true
  | d :: ds => d.imm && D.imms ds
end
section
variable {K : PySem.W.Frag} {cl : Cl} {G G' H H' : Hp} {L L' : Lab} {R R' : Roots} {σ σ' τ : St} {ρ ρ' ω : Rho}
mutual
theorem RepV.imm (h : ∀ b xs, G b = some (.tup xs) → G' b = some (.tup xs)) : ∀ (d : D) (v : V), d.imm = true → RepV K cl G v d → RepV K cl G' v d
  | .non, _, _, r => r
  | .bl _, _, _, r => r
  | .int _, _, _, r => r
  | .str _, _, _, r => r
  | .tup ds, _, i, ⟨a, vs, e, s, r⟩ => ⟨a, vs, e, by
      rcases s with s | s
      · exact .inl (h _ _ s)
      · exact .inr s, RepVs.imm h ds vs (by simpa [D.imm] using i) r⟩
  | .lst _, _, i, _ => by simp [D.imm] at i
  | .rol _, _, i, _ => by simp [D.imm] at i
  | .dct _ _, _, i, _ => by simp [D.imm] at i
  | .obj _ _ _, _, i, _ => by simp [D.imm] at i
theorem RepVs.imm (h : ∀ b xs, G b = some (.tup xs) → G' b = some (.tup xs)) : ∀ (ds : List D) (vs : List V), D.imms ds = true → RepVs K cl G vs ds → RepVs K cl G' vs ds
  | [], _, _, r => r
  | d :: ds, _, i, ⟨v, ws, e, r, rs⟩ => by
    have i2 : d.imm = true ∧ D.imms ds = true := by simpa [D.imms] using i
    exact ⟨v, ws, e, RepV.imm h d v i2.1 r, RepVs.imm h ds ws i2.2 rs⟩
end
def viewAll (ρ : Rho) : Rho := ρ.map fun o => o.map fun t => .fz t.frz
theorem viewAll_some {i : Nat} {o : O} (h : (viewAll ρ)[i]? = some (some o)) : ∃ t, ρ[i]? = some (some t) ∧ o = .fz t.frz := by
  unfold viewAll at h
  rw [List.getElem?_map] at h
  cases e : ρ[i]? with
  | none => rw [e] at h; cases h
  | some x =>
    rw [e] at h
    cases x with
    | none => cases h
    | some t =>
      have h2 : (some (some (O.fz t.frz)) : Option (Option O)) = some (some o) := h
      cases h2
      exact ⟨t, rfl, rfl⟩
/-- all that is owned looked at as frozen -/
def viewG (H G : Hp) (L : Lab) : Hp := fun b => match L b with
  | some _ => H b
  | none => G b
theorem SRep.view (h : SRep K cl σ H G L ρ) : SRep K cl σ H (viewG H G L) (fun _ => none) (viewAll ρ) := by
  have hle : Le G (viewG H G L) := fun b x hb => by
    unfold viewG
    split
    · exact h.le b x hb
    · exact hb
  refine ⟨by rw [h.len]; simp [viewAll], fun i o e => ?_, ⟨fun b x hb => ?_, fun b p e => by simp at e, fun b xs e => hle _ _ (h.rep.imm b xs e), fun i v o e => ?_, fun b p e => by simp at e⟩⟩
  · obtain ⟨t, e1, _⟩ := viewAll_some e
    exact h.all i t e1
  · unfold viewG at hb
    split at hb
    · exact hb
    · exact h.le b x hb
  · obtain ⟨e1, e2⟩ := rootsOf_some.mp e
    obtain ⟨t, e3, rfl⟩ := viewAll_some e2
    have r := h.rep.rep i v t (rootsOf_some.mpr ⟨e1, e3⟩)
    exact RepO.freeze (L := L) (H := H) (p := [i]) hle (fun a q x l hx => by
      unfold viewG
      rw [l]
      exact hx) t v [] (by simpa using r)
/-- behind an evaluation in that view: the true state, with the new tuples -/
def tupG (H' G : Hp) : Hp := fun b => match H' b with
  | some (.tup xs) => some (.tup xs)
  | _ => G b
theorem SRep.unview (h : SRep K cl σ H G L ρ) (h' : SRep K cl σ' H' G' L' ρ') (f : Frame H (viewG H G L) (fun _ => none) H' G' L') : SRep K cl σ H' (tupG H' G) L ρ ∧ Frame H G L H' (tupG H' G) L := by
  have keep : Le H H' := fun b x e => (f.keep b x e rfl).1
  have hle : Le G (tupG H' G) := fun b x hb => by
    have h1 := keep b x (h.le b x hb)
    unfold tupG
    rw [h1]
    cases x <;> first | rfl | exact hb
  have neL : ∀ b p, L b = some p → tupG H' G b = none := fun b p l => by
    obtain ⟨g, x, hx⟩ := h.rep.sep b p l
    have h1 := keep b x hx
    have nt : ∀ xs, x ≠ .tup xs := fun xs e => by
      rw [e] at hx
      rw [h.rep.imm b xs hx] at g
      cases g
    unfold tupG
    rw [h1]
    cases x <;> first | exact g | exact absurd rfl (nt _)
  refine ⟨⟨h.len, h.all, ⟨fun b x hb => ?_, fun b p l => ?_, fun b xs e => ?_, fun i v o e => ?_, h.rep.own⟩⟩, ⟨fun b x e l => ⟨keep b x e, l, fun g => ?_⟩, hle⟩⟩
  · unfold tupG at hb
    split at hb
    · rename_i xs e
      cases hb
      exact e
    · exact keep b x (h.le b x hb)
  · obtain ⟨_, x, hx⟩ := h.rep.sep b p l
    exact ⟨neL b p l, x, keep b x hx⟩
  · unfold tupG
    rw [e]
  · have := RepO.move (L' := L) (H' := H') (p := [i]) (p' := [i]) hle (fun a q l => ⟨l, fun x hx => keep a x hx⟩) o v [] (by simpa using h.rep.rep i v o e)
    simpa using this
  · have nt : ∀ xs, x ≠ .tup xs := fun xs z => by
      rw [z] at e
      rw [h.rep.imm b xs e] at g
      cases g
    unfold tupG
    rw [keep b x e]
    cases x <;> first | exact g | exact absurd rfl (nt _)
end

section
variable {X : Cx} {cl : Cl} {e a b c : Expr} {es : List Expr} {pos : Pos}
/-- read without taking: the answer is immutable -/
def mPeek (g : MD) : MD := fun ρ => match g (viewAll ρ) with
  | some (d, _) => (match d.imm with
    | true => some (d, ρ)
    | false => none)
  | none => none
theorem SD.peek {g : MD} (h : SD X cl e g) : SD X cl e (mPeek g) := PE.weak h fun σ H Q ⟨G, L, ρ, d, ρ', hs, hg, q⟩ => by
  unfold mPeek at hg
  split at hg
  · rename_i d' ρ1 e1
    split at hg
    · rename_i i
      cases hg
      refine ⟨_, _, _, _, _, hs.view, e1, fun v H' G' L' s r f => ?_⟩
      obtain ⟨s2, f2⟩ := hs.unview s f
      refine q v H' _ L s2 (RepV.imm (fun b xs z => ?_) d v i r) f2
      unfold tupG
      rw [s.le _ _ z]
    · cases hg
  · cases hg
def bPeek (g : MB) : MB := fun ρ => match g (viewAll ρ) with
  | some (k, _) => some (k, ρ)
  | none => none
theorem ST.peek {g : MB} (h : ST X cl e g) : ST X cl e (bPeek g) := PT.weak h fun σ H Q ⟨G, L, ρ, k, ρ', hs, hg, q⟩ => by
  unfold bPeek at hg
  split at hg
  · rename_i k' ρ1 e1
    cases hg
    refine ⟨_, _, _, _, _, hs.view, e1, fun H' G' L' s f => ?_⟩
    obtain ⟨s2, f2⟩ := hs.unview s f
    exact q H' _ L s2 f2
  · cases hg

/-! ### + * == on any data -/
def dAddG : D → D → Option D
  | .int i, .int j => some (.int (i + j))
  | .str x, .str y => (match decide (x.length + y.length ≤ sizeLine) with
    | true => some (.str (x ++ y))
    | false => none)
  | .tup xs, .tup ys => (match decide (xs.length + ys.length ≤ sizeLine) with
    | true => some (.tup (xs ++ ys))
    | false => none)
  | .lst xs, .lst ys => (match decide (xs.length + ys.length ≤ sizeLine) with
    | true => some (.lst (xs ++ ys))
    | false => none)
  | _, _ => none
theorem RepVs.length {K : PySem.W.Frag} {G : Hp} : ∀ {ds : List D} {vs : List V}, RepVs K cl G vs ds → vs.length = ds.length
  | [], _, r => by cases r; rfl
  | d :: ds, _, ⟨v, ws, e, _, r⟩ => by rw [e]; simp [RepVs.length r]
theorem RepVs.append {K : PySem.W.Frag} {G : Hp} : ∀ {ds es : List D} {vs ws : List V}, RepVs K cl G vs ds → RepVs K cl G ws es → RepVs K cl G (vs ++ ws) (ds ++ es)
  | [], _, _, _, r, s => by cases r; exact s
  | d :: ds, _, _, _, ⟨v, us, e, r0, r⟩, s => by rw [e]; exact ⟨v, _, rfl, r0, RepVs.append r s⟩
theorem RepVs.get {K : PySem.W.Frag} {G : Hp} : ∀ {ds : List D} {vs : List V} {i : Nat} {d : D}, RepVs K cl G vs ds → ds[i]? = some d → ∃ v, vs[i]? = some v ∧ RepV K cl G v d
  | [], _, _, _, _, h => by simp at h
  | d :: ds, _, 0, d', ⟨v, us, e, r0, r⟩, h => by
    simp at h
    subst h
    exact ⟨v, by rw [e]; rfl, r0⟩
  | d :: ds, _, i + 1, d', ⟨v, us, e, r0, r⟩, h => by
    obtain ⟨w, h1, h2⟩ := RepVs.get (i := i) r (by simpa using h)
    exact ⟨w, by rw [e]; simpa using h1, h2⟩
theorem RepVs.take {K : PySem.W.Frag} {G : Hp} : ∀ {ds : List D} {vs : List V} (n : Nat), RepVs K cl G vs ds → RepVs K cl G (vs.take n) (ds.take n)
  | _, _, 0, _ => rfl
  | [], _, n + 1, r => by cases r; rfl
  | d :: ds, _, n + 1, ⟨v, us, e, r0, r⟩ => by rw [e]; exact ⟨v, _, rfl, r0, RepVs.take n r⟩
theorem RepVs.drop {K : PySem.W.Frag} {G : Hp} : ∀ {ds : List D} {vs : List V} (n : Nat), RepVs K cl G vs ds → RepVs K cl G (vs.drop n) (ds.drop n)
  | _, _, 0, r => by simpa using r
  | [], _, n + 1, r => by cases r; rfl
  | d :: ds, _, n + 1, ⟨v, us, e, r0, r⟩ => by rw [e]; exact RepVs.drop n r
theorem RepVs.rep {K : PySem.W.Frag} {G : Hp} {ds : List D} {vs : List V} (r : RepVs K cl G vs ds) : ∀ k : Nat, RepVs K cl G (List.replicate k vs).flatten (List.replicate k ds).flatten
  | 0 => rfl
  | k + 1 => by
    rw [List.replicate_succ, List.replicate_succ, List.flatten_cons, List.flatten_cons]
    exact r.append (r.rep k)
theorem RepVs.rev {K : PySem.W.Frag} {G : Hp} : ∀ {ds : List D} {vs : List V}, RepVs K cl G vs ds → RepVs K cl G vs.reverse ds.reverse
  | [], _, r => by cases r; rfl
  | d :: ds, _, ⟨v, us, e, r0, r⟩ => by
    rw [e, List.reverse_cons, List.reverse_cons]
    exact (RepVs.rev r).append ⟨v, [], rfl, r0, rfl⟩
abbrev rAddG (K : PySem.W.Frag) : R2 := fun x y H Q => (fun x y H Q => ∃ i j, x = .int i ∧ y = .int j ∧ Q (.int (i + j)) H) x y H Q ∨ ((fun x y H Q => ∃ i j, x = .str i ∧ y = .str j ∧ i.length + j.length ≤ sizeLine ∧ Q (.str (i ++ j)) H) x y H Q ∨ ((rCatA K) x y H Q ∨ rCat x y H Q))
theorem ok_addG {K : PySem.W.Frag} : R2Ok K cl (rAddG K) dAddG := fun G H x y dx dy d Q hle him rx ry e q => by
  unfold dAddG at e
  split at e
  · cases e
    cases rx
    cases ry
    exact .inl ⟨_, _, rfl, rfl, q _ _ _ (Ext.refl hle) rfl⟩
  · split at e
    · rename_i z
      cases e
      cases rx
      cases ry
      exact .inr (.inl ⟨_, _, rfl, rfl, of_decide_eq_true z, q _ _ _ (Ext.refl hle) rfl⟩)
    · cases e
  · split at e
    · rename_i xs ys _ z
      cases e
      obtain ⟨a, vs, rfl, ha, ra⟩ := rx
      obtain ⟨b, ws, rfl, hb, rb⟩ := ry
      have z := of_decide_eq_true z
      refine .inr (.inr (.inl ⟨a, b, vs, ws, rfl, rfl, (hle.tup ha).seq, (hle.tup hb).seq, by rw [ra.length, rb.length]; exact z, fun h => ?_, fun h1 h2 => ?_, fun _ _ p hp => ?_⟩))
      · subst h
        have : xs = [] := List.eq_nil_of_length_eq_zero (by rw [← ra.length]; rfl)
        subst this
        exact q _ _ _ (Ext.refl hle) ⟨b, ws, rfl, hb, rb⟩
      · subst h2
        have : ys = [] := List.eq_nil_of_length_eq_zero (by rw [← rb.length]; rfl)
        subst this
        rw [List.append_nil] at q
        exact q _ _ _ (Ext.refl hle) ⟨a, vs, rfl, ha, ra⟩
      · have ex := Ext.new hle hp (.tup (vs ++ ws))
        exact q _ _ _ ex ⟨p, _, rfl, .inl upd_same, (ra.mono ex.le).append (rb.mono ex.le)⟩
    · cases e
  · split at e
    · rename_i xs ys _ z
      cases e
      obtain ⟨a, vs, rfl, ha, ra⟩ := rx
      obtain ⟨b, ws, rfl, hb, rb⟩ := ry
      have z := of_decide_eq_true z
      refine .inr (.inr (.inr ⟨a, b, vs, ws, rfl, rfl, hle _ _ ha, hle _ _ hb, by rw [ra.length, rb.length]; exact z, fun p hp => ?_⟩))
      have ex := Ext.new hle hp (.lst (vs ++ ws))
      exact q _ _ _ ex ⟨p, _, rfl, upd_same, (ra.mono ex.le).append (rb.mono ex.le)⟩
    · cases e
  · cases e
theorem op_addG : OpR X (binaryOp .Add) (rAddG X.K) := op_add.or (op_add_str.or (op_catA.or op_cat))
theorem sd_addG {ga gb : MD} (ha : SD X cl a ga) (hb : SD X cl b gb) : SD X cl (.BinOp a .Add b pos) (mOp2 dAddG ga gb) := sd_bin op_addG ok_addG ha hb
def dMulG : D → D → Option D
  | .int i, .int j => dMul (.int i) (.int j)
  | .tup xs, .int k => (match decide (k ≤ 1000 ∧ -1000 ≤ k ∧ xs.length ≤ 1000) with
    | true => some (.tup (List.replicate k.toNat xs).flatten)
    | false => none)
  | _, _ => none
theorem ok_mulG {K : PySem.W.Frag} : R2Ok K cl (fun x y H Q => (rI CMul fun i j => .int (i * j)) x y H Q ∨ (rRepA K) x y H Q) dMulG := fun G H x y dx dy d Q hle him rx ry e q => by
  unfold dMulG at e
  split at e
  · exact .inl (ok_int2c (fun i j h => by have h2 := of_decide_eq_true h; exact h2) G H x y _ _ d Q hle him rx ry e q)
  · rename_i xs k
    split at e
    · rename_i z
      cases e
      obtain ⟨a, vs, rfl, ha, ra⟩ := rx
      cases ry
      obtain ⟨z1, z2, z3⟩ := of_decide_eq_true z
      refine .inr ⟨a, k, vs, rfl, rfl, (hle.tup ha).seq, z1, z2, by rw [ra.length]; exact z3, fun h => ?_, fun h1 h2 p hp => ?_⟩
      · have : (List.replicate k.toNat xs).flatten = xs := by
          rcases h with h | h
          · subst h
            have : xs = [] := List.eq_nil_of_length_eq_zero (by rw [← ra.length]; rfl)
            subst this
            induction k.toNat with
            | zero => rfl
            | succ n ih => rw [List.replicate_succ, List.flatten_cons, ih]; rfl
          · subst h
            show (List.replicate 1 xs).flatten = xs
            simp
        rw [this] at q
        exact q _ _ _ (Ext.refl hle) ⟨a, vs, rfl, ha, ra⟩
      · have ex := Ext.new hle hp (.tup (List.replicate k.toNat vs).flatten)
        exact q _ _ _ ex ⟨p, _, rfl, .inl upd_same, (ra.mono ex.le).rep _⟩
    · cases e
  · cases e
theorem sd_mulG {ga gb : MD} (ha : SD X cl a ga) (hb : SD X cl b gb) : SD X cl (.BinOp a .Mult b pos) (mOp2 dMulG ga gb) := sd_bin (op_mul.or op_repA) ok_mulG ha hb

/-! equality -/
mutual
def D.py : D → Option PyData
  | .non => some .none
  | .bl b => some (.bool b)
  | .int i => some (.int i)
  | .str s => some (.str s)
  | .tup ds => (match D.pys ds with
    | some ps => some (.tuple ps)
    | none => none)
  | .lst ds => (match D.pys ds with
    | some ps => some (.list ps)
    | none => none)
  | _ => none
def D.pys : List D → Option (List PyData)
  | [] => some []
  | d :: ds => (match d.py, D.pys ds with
    | some p, some ps => some (p :: ps)
    | _, _ => none)
end
mutual
theorem RepV.dp {K : PySem.W.Frag} {G : Hp} : ∀ (d : D) (v : V) (p : PyData), d.py = some p → RepV K cl G v d → Dp K G v p
  | .non, _, _, e, r => by simp only [D.py] at e; cases e; cases r; exact .non
  | .bl _, _, _, e, r => by simp only [D.py] at e; cases e; cases r; exact .bl _
  | .int _, _, _, e, r => by simp only [D.py] at e; cases e; cases r; exact .int _
  | .str _, _, _, e, r => by simp only [D.py] at e; cases e; cases r; exact .str _
  | .tup ds, _, _, e, ⟨a, vs, e0, s, r⟩ => by
    simp only [D.py] at e
    split at e
    · rename_i ps e1
      cases e
      cases e0
      exact .tup s.seq (RepVs.dp ds vs ps e1 r)
    · cases e
  | .lst ds, _, _, e, ⟨a, vs, e0, s, r⟩ => by
    simp only [D.py] at e
    split at e
    · rename_i ps e1
      cases e
      cases e0
      exact .lst (SqL.of s) (RepVs.dp ds vs ps e1 r)
    · cases e
  | .rol _, _, _, e, _ => by simp [D.py] at e
  | .dct _ _, _, _, e, _ => by simp [D.py] at e
  | .obj _ _ _, _, _, e, _ => by simp [D.py] at e
theorem RepVs.dp {K : PySem.W.Frag} {G : Hp} : ∀ (ds : List D) (vs : List V) (ps : List PyData), D.pys ds = some ps → RepVs K cl G vs ds → DpAll K G vs ps
  | [], _, _, e, r => by simp only [D.pys] at e; cases e; cases r; exact .nil
  | d :: ds, _, _, e, ⟨v, ws, e0, r, rs⟩ => by
    simp only [D.pys] at e
    split at e
    · rename_i p ps e1 e2
      cases e
      rw [e0]
      exact .cons (RepV.dp d v p e1 r) (RepVs.dp ds ws ps e2 rs)
    · cases e
end
def dEq : D → D → Option Bool
  | .int i, .int j => some (decide (i = j))
  | .str x, .str y => some (decide (x = y))
  | .bl x, .bl y => some (decide (x = y))
  | x, y => (match x.py, y.py with
    | some p, some q => (match SeqAt.shaped p && SeqAt.shaped q with
      | true => some (PyData.eqv p q)
      | false => none)
    | _, _ => none)
def dEqD (x y : D) : Option D := match dEq x y with
  | some k => some (.bl k)
  | none => none
def dNeD (x y : D) : Option D := match dEq x y with
  | some k => some (.bl !k)
  | none => none
theorem dEq_ok {K : PySem.W.Frag} {G H : Hp} {x y : V} {dx dy : D} {k : Bool} (hle : Le G H) (rx : RepV K cl G x dx) (ry : RepV K cl G y dy) (e : dEq dx dy = some k) :
    (scal x y = true ∧ k = decide (x = y)) ∨ ∃ p q, Dp K H x p ∧ Dp K H y q ∧ SeqAt.shaped p = true ∧ SeqAt.shaped q = true ∧ k = PyData.eqv p q := by
  unfold dEq at e
  split at e
  · cases e; cases rx; cases ry; exact .inl ⟨rfl, by simp⟩
  · cases e; cases rx; cases ry; exact .inl ⟨rfl, by simp⟩
  · cases e; cases rx; cases ry; exact .inl ⟨rfl, by simp⟩
  · split at e
    · rename_i p q e1 e2
      split at e
      · rename_i z
        cases e
        obtain ⟨z1, z2⟩ := Bool.and_eq_true_iff.mp z
        exact .inr ⟨p, q, (rx.mono hle).dp _ _ _ e1, (ry.mono hle).dp _ _ _ e2, z1, z2, rfl⟩
      · cases e
    · cases e
theorem ok_eq {K : PySem.W.Frag} : R2Ok K cl (fun x y H Q => rEq x y H Q ∨ rEqD K x y H Q) dEqD := fun G H x y dx dy d Q hle him rx ry e q => by
  unfold dEqD at e
  split at e
  · rename_i k e1
    cases e
    have q := q (.bl k) H G (Ext.refl hle) rfl
    rcases dEq_ok hle rx ry e1 with ⟨z1, z2⟩ | ⟨p, p', z1, z2, z3, z4, z5⟩
    · exact .inl ⟨z1, by rw [← z2]; exact q⟩
    · exact .inr ⟨p, p', z1, z2, z3, z4, by rw [← z5]; exact q⟩
  · cases e
theorem ok_ne {K : PySem.W.Frag} : R2Ok K cl (fun x y H Q => rNe x y H Q ∨ rNeD K x y H Q) dNeD := fun G H x y dx dy d Q hle him rx ry e q => by
  unfold dNeD at e
  split at e
  · rename_i k e1
    cases e
    have q := q (.bl !k) H G (Ext.refl hle) rfl
    rcases dEq_ok hle rx ry e1 with ⟨z1, z2⟩ | ⟨p, p', z1, z2, z3, z4, z5⟩
    · exact .inl ⟨z1, by rw [← z2]; exact q⟩
    · exact .inr ⟨p, p', z1, z2, z3, z4, by rw [← z5]; exact q⟩
  · cases e
theorem sd_eq {ga gb : MD} (hu : X.A.units + 64 < cLine) (ha : SD X cl a ga) (hb : SD X cl b gb) : SD X cl (.Compare a [.Eq] [b] pos) (mOp2 dEqD ga gb) := sd_cmp (op_eq.or (op_eqD hu)) ok_eq ha hb (nomark _)
theorem sd_ne {ga gb : MD} (hu : X.A.units + 64 < cLine) (ha : SD X cl a ga) (hb : SD X cl b gb) : SD X cl (.Compare a [.NotEq] [b] pos) (mOp2 dNeD ga gb) := sd_cmp (op_ne.or (op_neD hu)) ok_ne ha hb (nomark _)
/-! is None, is True -/
def dIs : D → D → Option D
  | .bl x, .bl y => some (.bl (decide (x = y)))
  | .non, .non => some (.bl true)
  | .bl _, .non => some (.bl false)
  | .int _, .non => some (.bl false)
  | .str _, .non => some (.bl false)
  | .tup _, .non => some (.bl false)
  | .lst _, .non => some (.bl false)
  | .dct _ _, .non => some (.bl false)
  | .obj _ _ _, .non => some (.bl false)
  | _, _ => none
def dIsNot (x y : D) : Option D := match dIs x y with
  | some (.bl k) => some (.bl !k)
  | _ => none
theorem dIs_ok {K : PySem.W.Frag} {G : Hp} {x y : V} {dx dy d : D} (rx : RepV K cl G x dx) (ry : RepV K cl G y dy) (e : dIs dx dy = some d) :
    ∃ k, d = .bl k ∧ ((y = .non ∧ k = decide (x = .non)) ∨ ∃ p q, x = .bl p ∧ y = .bl q ∧ k = decide (p = q)) := by
  unfold dIs at e
  split at e
  · cases e; cases rx; cases ry; exact ⟨_, rfl, .inr ⟨_, _, rfl, rfl, rfl⟩⟩
  · cases e; cases rx; cases ry; exact ⟨_, rfl, .inl ⟨rfl, rfl⟩⟩
  · cases e; cases rx; cases ry; exact ⟨_, rfl, .inl ⟨rfl, rfl⟩⟩
  · cases e; cases rx; cases ry; exact ⟨_, rfl, .inl ⟨rfl, rfl⟩⟩
  · cases e; cases rx; cases ry; exact ⟨_, rfl, .inl ⟨rfl, rfl⟩⟩
  · cases e; obtain ⟨_, _, rfl, _⟩ := rx; cases ry; exact ⟨_, rfl, .inl ⟨rfl, rfl⟩⟩
  · cases e; obtain ⟨_, _, rfl, _⟩ := rx; cases ry; exact ⟨_, rfl, .inl ⟨rfl, rfl⟩⟩
  · cases e; obtain ⟨_, _, rfl, _⟩ := rx; cases ry; exact ⟨_, rfl, .inl ⟨rfl, rfl⟩⟩
  · cases e; obtain ⟨_, _, _, rfl, _⟩ := rx; cases ry; exact ⟨_, rfl, .inl ⟨rfl, rfl⟩⟩
  · cases e
theorem sd_is {ga gb : MD} (ha : SD X cl a ga) (hb : SD X cl b gb) : SD X cl (.Compare a [.Is] [b] pos) (mOp2 dIs ga gb) := sd_cmp (op_isN.or op_isBl) (fun G H x y dx dy d Q hle him rx ry e q => by
  obtain ⟨k, rfl, z⟩ := dIs_ok rx ry e
  have q := q (.bl k) H G (Ext.refl hle) rfl
  rcases z with ⟨z1, z2⟩ | ⟨p, p', z1, z2, z3⟩
  · exact .inl ⟨z1, by rw [← z2]; exact q⟩
  · exact .inr ⟨p, p', z1, z2, by rw [← z3]; exact q⟩) ha hb (nomark _)
theorem sd_isNot {ga gb : MD} (ha : SD X cl a ga) (hb : SD X cl b gb) : SD X cl (.Compare a [.IsNot] [b] pos) (mOp2 dIsNot ga gb) := sd_cmp (op_notN.or op_notBl) (fun G H x y dx dy d Q hle him rx ry e q => by
  unfold dIsNot at e
  split at e
  · rename_i k e1
    cases e
    obtain ⟨k', ek, z⟩ := dIs_ok rx ry e1
    cases ek
    have q := q (.bl !k) H G (Ext.refl hle) rfl
    rcases z with ⟨z1, z2⟩ | ⟨p, p', z1, z2, z3⟩
    · exact .inl ⟨z1, by rw [← z2]; exact q⟩
    · exact .inr ⟨p, p', z1, z2, by rw [← z3]; exact q⟩
  · cases e) ha hb (nomark _)
end
end PI
set_option Elab.async false
set_option linter.all false
set_option maxRecDepth 100000
set_option maxHeartbeats 1000000
set_option autoImplicit false
/-! PI7: displays, subscripts, slices, built-ins, tests. -/
namespace PI
open PySem PySem.Spec L2

abbrev MDs := Rho → Option (List D × Rho)
section
variable (X : Cx) (cl : Cl)
def tDs (f : MDs) : TA := fun σ H Q => ∃ G L ρ ds ρ', SRep X.K cl σ H G L ρ ∧ f ρ = some (ds, ρ') ∧ ∀ vs H' G' L', SRep X.K cl σ H' G' L' ρ' → RepVs X.K cl G' vs ds → Frame H G L H' G' L' → Q vs H'
def SDs (es : List Expr) (f : MDs) : Prop := PA X es (tDs X cl f)
end
section
variable {X : Cx} {cl : Cl} {e a b c o : Expr} {es : List Expr} {pos : Pos}
def dsNil : MDs := fun ρ => some ([], ρ)
theorem sds_nil : SDs X cl [] dsNil := PA.weak pa_nil fun σ H Q ⟨G, L, ρ, ds, ρ', hs, hg, q⟩ => by
  cases hg
  exact q [] H G L hs rfl Frame.refl
def dsCons (g : MD) (f : MDs) : MDs := fun ρ => match g ρ with
  | some (d, ρ1) => (match f ρ1 with
    | some (ds, ρ2) => some (d :: ds, ρ2)
    | none => none)
  | none => none
theorem sds_cons {g : MD} {f : MDs} (he : SD X cl e g) (hr : SDs X cl es f) (hs : starEach (e :: es) X.env = (false, eval e X.env) :: starEach es X.env := by rfl) : SDs X cl (e :: es) (dsCons g f) :=
  PA.weak (pa_cons he hr hs) fun σ H Q ⟨G, L, ρ, ds, ρ', hs, hg, q⟩ => by
    unfold dsCons at hg
    split at hg
    · rename_i d ρ1 e1
      split at hg
      · rename_i ds2 ρ2 e2
        cases hg
        refine ⟨G, L, ρ, d, ρ1, hs, e1, fun x H1 G1 L1 s1 r1 f1 => ⟨G1, L1, ρ1, ds2, _, s1, e2, fun vs H2 G2 L2 s2 r2 f2 => ?_⟩⟩
        exact q (x :: vs) H2 G2 L2 s2 ⟨x, vs, rfl, r1.mono f2.le, r2⟩ (f1.trans f2)
      · cases hg
    · cases hg
def mTup (f : MDs) : MD := fun ρ => match f ρ with
  | some (ds, ρ1) => (match decide (ds.length ≤ sizeLine) with
    | true => some (.tup ds, ρ1)
    | false => none)
  | none => none
theorem sd_tup {f : MDs} {k : Nat} (h : SDs X cl es f) : SD X cl (.Tuple es k pos) (mTup f) := PE.weak (pe_tup h) fun σ H Q ⟨G, L, ρ, d, ρ', hs, hg, q⟩ => by
  unfold mTup at hg
  split at hg
  · rename_i ds ρ1 e1
    split at hg
    · rename_i z
      cases hg
      refine ⟨G, L, ρ, ds, _, hs, e1, fun vs H1 G1 L1 s1 r1 f1 => ⟨by rw [r1.length]; exact of_decide_eq_true z, fun p hp => ?_⟩⟩
      have ex := Ext.new s1.le hp (.tup vs)
      obtain ⟨s2, f2⟩ := s1.ext ex
      exact q _ _ _ L1 s2 ⟨p, vs, rfl, .inl upd_same, r1.mono ex.le⟩ (f1.trans f2)
    · cases hg
  · cases hg

/-! new owned roots -/
def updL (L : Lab) (p : Addr) (q : Path) : Lab := fun b => if b = p then some q else L b
theorem SRep.pushNew {K : PySem.W.Frag} {G H : Hp} {L : Lab} {σ : St} {ρ : Rho} (h : SRep K cl σ H G L ρ) {p : Addr} (hp : H p = none) {ho : HO} (nt : ∀ xs, ho ≠ .tup xs) {t : O}
    (r : RepO K cl G (upd H p ho) (updL L p [ρ.length]) [ρ.length] (.ref p) t) : SRep K cl (σ ++ [some (.ref p)]) (upd H p ho) G (updL L p [ρ.length]) (ρ ++ [some t]) ∧ Frame H G L (upd H p ho) G (updL L p [ρ.length]) := by
  have ne : ∀ b x, H b = some x → b ≠ p := fun b x e z => by rw [z, hp] at e; cases e
  have gp : G p = none := by
    cases q : G p with
    | none => rfl
    | some x => have := h.le p x q; rw [hp] at this; cases this
  have lp : L p = none := by
    cases q : L p with
    | none => rfl
    | some x => obtain ⟨_, y, hy⟩ := h.rep.sep p x q; rw [hp] at hy; cases hy
  refine ⟨⟨by simp [h.len], fun i o e => ?_, ⟨fun b x hb => ?_, fun b q l => ?_, fun b xs e => ?_, fun i v o e => ?_, fun b q l => ?_⟩⟩, ⟨fun b x e l => ?_, Le.refl⟩⟩
  · rw [get_app] at e ⊢
    rw [h.len]
    split at e
    · rename_i z
      rw [if_pos z]
      exact h.all i o e
    · rename_i z
      rw [if_neg z]
      split at e
      · rename_i z2
        rw [if_pos z2]
        exact ⟨_, rfl⟩
      · cases e
  · rw [upd_ne (ne b x (h.le b x hb))]
    exact h.le b x hb
  · unfold updL at l
    split at l
    · rename_i z
      subst z
      exact ⟨gp, _, upd_same⟩
    · rename_i z
      obtain ⟨g, x, hx⟩ := h.rep.sep b q l
      exact ⟨g, x, by rw [upd_ne z]; exact hx⟩
  · by_cases z : b = p
    · subst z
      rw [upd_same] at e
      cases e
      exact absurd rfl (nt xs)
    · rw [upd_ne z] at e
      exact h.rep.imm b xs e
  · rw [show ρ ++ [some t] = ρ ++ [some t] from rfl] at e
    rw [rootsOf_app h.len] at e
    split at e
    · have := RepO.move (L := L) (H := H) (L' := updL L p [ρ.length]) (H' := upd H p ho) (p := [i]) (p' := [i]) Le.refl (fun a q l => ⟨by
        have : a ≠ p := fun z => by rw [z, lp] at l; cases l
        unfold updL
        rw [if_neg this]
        exact l, fun x hx => by rw [upd_ne (ne a x hx)]; exact hx⟩) o v [] (by simpa using h.rep.rep i v o e)
      simpa using this
    · rename_i z
      have : i = ρ.length := by
        have e2 := (rootsOf_some.mp e).1
        have := (List.getElem?_eq_some_iff.mp e2).1
        simp at this
        omega
      subst this
      simp [rootsOf] at e
      obtain ⟨e1, e2⟩ := e
      subst e1 e2
      exact r
  · unfold updL at l
    split at l
    · cases l
      refine ⟨_, _, rfl, ?_⟩
      rw [rootsOf_app h.len, if_neg (by omega)]
      simp [rootsOf]
    · obtain ⟨i, r', e1, e2⟩ := h.rep.own b q l
      refine ⟨i, r', e1, ?_⟩
      obtain ⟨⟨v1, o⟩, e3⟩ := Option.isSome_iff_exists.mp e2
      rw [rootsOf_app h.len, if_pos (List.getElem?_eq_some_iff.mp (rootsOf_some.mp e3).2).1, e3]
      rfl
  · rw [upd_ne (ne b x e)]
    refine ⟨e, ?_, id⟩
    unfold updL
    rw [if_neg (ne b x e)]
    exact l
theorem repOs_fz {K : PySem.W.Frag} {G H : Hp} {L : Lab} : ∀ (ds : List D) (vs : List V) (p : Path) (i : Nat), RepVs K cl G vs ds → RepOs K cl G H L p i vs (ds.map .fz)
  | [], _, _, _, r => r
  | d :: ds, _, p, i, ⟨v, ws, e, r, rs⟩ => ⟨v, ws, e, r, repOs_fz ds ws p (i + 1) rs⟩
theorem SRep.pushLst {K : PySem.W.Frag} {G H : Hp} {L : Lab} {σ : St} {ρ : Rho} (h : SRep K cl σ H G L ρ) {p : Addr} (hp : H p = none) {vs : List V} {ds : List D} (r : RepVs K cl G vs ds) :
    SRep K cl (σ ++ [some (.ref p)]) (upd H p (.lst vs)) G (updL L p [ρ.length]) (ρ ++ [some (.lst (ds.map .fz))]) ∧ Frame H G L (upd H p (.lst vs)) G (updL L p [ρ.length]) :=
  h.pushNew hp (ho := .lst vs) (fun xs e => by cases e) ⟨p, vs, rfl, by unfold updL; rw [if_pos rfl], upd_same, repOs_fz ds vs _ 0 r⟩
/-- a new list of frozen things -/
def oLst (f : MDs) : MO := fun ρ => match f ρ with
  | some (ds, ρ1) => (match decide (ds.length ≤ sizeLine) with
    | true => some (.lst (ds.map .fz), ρ1)
    | false => none)
  | none => none
theorem so_lst {f : MDs} (h : SDs X cl es f) : SO X cl (.List es pos) (oLst f) := PE.weak (pe_lst h) fun σ H Q ⟨G, L, ρ, d, ρ', hs, hg, q⟩ => by
  unfold oLst at hg
  split at hg
  · rename_i ds ρ1 e1
    split at hg
    · rename_i z
      cases hg
      refine ⟨G, L, ρ, ds, _, hs, e1, fun vs H1 G1 L1 s1 r1 f1 => ⟨by rw [r1.length]; exact of_decide_eq_true z, fun p hp => ?_⟩⟩
      obtain ⟨s2, f2⟩ := s1.pushLst hp r1
      exact q _ _ _ _ s2 (f1.trans f2)
    · cases hg
  · cases hg

/-! ### subscripts -/
def lookD : List Key → List D → Key → Option D
  | k :: ks, d :: ds, j => if k = j then some d else lookD ks ds j
  | _, _, _ => none
theorem lookD_ok {K : PySem.W.Frag} {G : Hp} : ∀ {kvs : List (Key × V)} {ds : List D} {j : Key} {d : D}, RepVs K cl G (kvs.map (·.2)) ds → lookD (kvs.map (·.1)) ds j = some d → ∃ v, valV kvs j = some v ∧ RepV K cl G v d
  | [], _, _, _, _, h => by simp [lookD] at h
  | (k, v) :: kvs, [], _, _, r, _ => by cases r
  | (k, v) :: kvs, d :: ds, j, d', r, h => by
    obtain ⟨v', ws, e, r0, rs⟩ := r
    simp only [List.map_cons, List.cons.injEq] at e
    obtain ⟨rfl, rfl⟩ := e
    simp only [List.map_cons, lookD] at h
    split at h
    · rename_i z
      cases h
      exact ⟨v, valV_pos z, r0⟩
    · rename_i z
      obtain ⟨w, h1, h2⟩ := lookD_ok rs h
      exact ⟨w, by rw [valV_neg z]; exact h1, h2⟩
theorem lookD_none {K : PySem.W.Frag} {G : Hp} : ∀ {kvs : List (Key × V)} {ds : List D} {j : Key}, RepVs K cl G (kvs.map (·.2)) ds → lookD (kvs.map (·.1)) ds j = none → valV kvs j = none
  | [], _, _, _, _ => rfl
  | (k, v) :: kvs, [], _, r, _ => by cases r
  | (k, v) :: kvs, d :: ds, j, r, h => by
    obtain ⟨v', ws, e, r0, rs⟩ := r
    simp only [List.map_cons, List.cons.injEq] at e
    obtain ⟨rfl, rfl⟩ := e
    simp only [List.map_cons, lookD] at h
    split at h
    · cases h
    · rename_i z
      rw [valV_neg z]
      exact lookD_none rs h
def keyD : D → Option Key
  | .int i => some (.inl i)
  | .str s => some (.inr s)
  | _ => none
theorem keyD_ok {K : PySem.W.Frag} {G : Hp} {y : V} {d : D} {k : Key} (e : keyD d = some k) (r : RepV K cl G y d) : y = kV k := by
  unfold keyD at e
  split at e
  · cases e; cases r; rfl
  · cases e; cases r; rfl
  · cases e
def dIx : D → D → Option D
  | .tup ds, .int i => atI ds i
  | .lst ds, .int i => atI ds i
  | .rol ds, .int i => atI ds i
  | .str z, .int i => (match decide (z.length ≤ sizeLine), atI z.cps.toList i with
    | true, some c => some (.str ⟨#[c]⟩)
    | _, _ => none)
  | .dct ks ds, y => (match keyD y with
    | some k => lookD ks ds k
    | none => none)
  | _, _ => none
theorem RepVs.at_ {K : PySem.W.Frag} {G : Hp} {ds : List D} {vs : List V} {i : Int} {d : D} (r : RepVs K cl G vs ds) (h : atI ds i = some d) : ∃ v, atI vs i = some v ∧ RepV K cl G v d := by
  unfold atI at h ⊢
  rw [r.length]
  cases e : ixN ds.length i with
  | none => rw [e] at h; cases h
  | some j =>
    rw [e] at h
    exact r.get h
theorem sd_ixG {ga gb : MD} (hu : X.A.units + 1 < cLine) (ha : SD X cl a ga) (hb : SD X cl b gb) (hs : PlainIx b := by exact fun _ _ => rfl) (hs2 : NoSl b := by exact fun _ _ => rfl) : SD X cl (.Subscript a b pos) (mOp2 dIx ga gb) := by
  have p1 : SD X cl (.Subscript a b pos) (mOp2 (fun x y => match x with | .dct _ _ => none | x => dIx x y) ga gb) := sd_ix ix_seq (fun G H x y dx dy d Q hle him rx ry e q => by
    cases dx <;> first | (simp only [dIx] at e; done) | skip
    all_goals simp only at e
    case str z =>
      cases dy <;> simp only [dIx] at e <;> first | cases e | skip
      rename_i i
      split at e
      · rename_i c e1 e2
        cases e
        cases rx
        cases ry
        exact .inr (.inr ⟨z, i, c, rfl, rfl, of_decide_eq_true e1, e2, q _ _ _ (Ext.refl hle) rfl⟩)
      · cases e
    case tup ds =>
      cases dy <;> simp only [dIx] at e <;> first | cases e | skip
      rename_i i
      obtain ⟨p, vs, rfl, hp, rv⟩ := rx
      cases ry
      obtain ⟨v, h1, h2⟩ := rv.at_ e
      exact .inr (.inl ⟨p, vs, i, v, rfl, rfl, (hle.tup hp).seq, h1, q _ _ _ (Ext.refl hle) h2⟩)
    case lst ds =>
      cases dy <;> simp only [dIx] at e <;> first | cases e | skip
      rename_i i
      obtain ⟨p, vs, rfl, hp, rv⟩ := rx
      cases ry
      obtain ⟨v, h1, h2⟩ := rv.at_ e
      exact .inl ⟨p, vs, i, v, rfl, rfl, SqL.of (hle _ _ hp), h1, q _ _ _ (Ext.refl hle) h2⟩
    case rol ds =>
      cases dy <;> simp only [dIx] at e <;> first | cases e | skip
      rename_i i
      obtain ⟨p, vs, rfl, hp, rv⟩ := rx
      cases ry
      obtain ⟨v, h1, h2⟩ := rv.at_ e
      exact .inl ⟨p, vs, i, v, rfl, rfl, hle.seq hp, h1, q _ _ _ (Ext.refl hle) h2⟩
    all_goals first | (cases e; done) | (simp [dIx] at e; done)) ha hb hs
  have p2 := pe_dget (pos := pos) hu ha hb hs2
  refine ⟨fun pins s σ H Q I h => ?_⟩
  obtain ⟨G, L, ρ, d, ρ', hr, hg, q⟩ := h
  obtain ⟨x, ρ1, y, e1, e2, e3⟩ := mOp2_some hg
  by_cases hd : ∃ ks ds, x = .dct ks ds
  · obtain ⟨ks, ds, rfl⟩ := hd
    refine p2.run pins s σ H Q I ⟨G, L, ρ, _, ρ1, hr, e1, fun v H1 G1 L1 s1 r1 f1 => ⟨G1, L1, ρ1, y, ρ', s1, e2, fun u H2 G2 L2 s2 r2 f2 => ?_⟩⟩
    simp only [dIx] at e3
    split at e3
    · rename_i k ek
      obtain ⟨a', kvs, rfl, hd, hk, rv⟩ := r1.mono f2.le
      subst hk
      obtain ⟨v, h1, h2⟩ := lookD_ok rv e3
      exact ⟨a', v, rfl, .inl ⟨kvs, k, s2.le.rd hd, keyD_ok ek r2, h1.symm⟩, q v H2 G2 L2 s2 h2 (f1.trans f2)⟩
    · cases e3
  · refine p1.run pins s σ H Q I ⟨G, L, ρ, d, ρ', hr, ?_, q⟩
    unfold mOp2
    rw [e1]
    simp only [e2]
    cases x <;> first | exact absurd ⟨_, _, rfl⟩ hd | (simp only [e3])

/-! ### slices -/
def SPO (X : Cx) (cl : Cl) (e : Option Expr) (g : Rho → Option (Option Int × Rho)) : Prop := PO X e fun σ H Q => ∃ G L ρ d ρ', SRep X.K cl σ H G L ρ ∧ g ρ = some (d, ρ') ∧ ∀ H' G' L', SRep X.K cl σ H' G' L' ρ' → Frame H G L H' G' L' → Q d H'
def pNone : Rho → Option (Option Int × Rho) := fun ρ => some (none, ρ)
def pSome (g : MD) : Rho → Option (Option Int × Rho) := fun ρ => match g ρ with
  | some (.int i, ρ1) => some (some i, ρ1)
  | _ => none
theorem PO.weak {e : Option Expr} {t t' : TO} (h : PO X e t) (w : ∀ σ H Q, t' σ H Q → t σ H Q) : PO X e t' := ⟨fun pins s σ H Q I q => h.run pins s σ H Q I (w σ H _ q)⟩
theorem spo_none : SPO X cl none pNone := PO.weak po_none fun σ H Q ⟨G, L, ρ, d, ρ', hs, hg, q⟩ => by
  cases hg
  exact q H G L hs Frame.refl
theorem spo_some {g : MD} (h : SD X cl e g) : SPO X cl (some e) (pSome g) := PO.weak (po_some h) fun σ H Q ⟨G, L, ρ, d, ρ', hs, hg, q⟩ => by
  unfold pSome at hg
  split at hg
  · rename_i i ρ1 e1
    cases hg
    exact ⟨G, L, ρ, _, _, hs, e1, fun v H' G' L' s r f => ⟨i, r, q H' G' L' s f⟩⟩
  · cases hg
def cutD {α : Type} (xs : List α) (lo hi : Option Int) : List α := (xs.drop (HT.sIx xs.length 0 lo)).take (HT.sIx xs.length xs.length hi - HT.sIx xs.length 0 lo)
def dSlice : D → Option Int → Option Int → Option D
  | .tup ds, lo, hi => some (.tup (cutD ds lo hi))
  | .lst ds, lo, hi => some (.lst (cutD ds lo hi))
  | .rol ds, lo, hi => some (.lst (cutD ds lo hi))
  | .str z, lo, hi => (match decide (z.length ≤ sizeLine) with
    | true => some (.str (cutS z lo hi))
    | false => none)
  | _, _, _ => none
theorem RepVs.cut {K : PySem.W.Frag} {G : Hp} {ds : List D} {vs : List V} (r : RepVs K cl G vs ds) (lo hi : Option Int) : RepVs K cl G (cutV vs lo hi) (cutD ds lo hi) := by
  unfold cutV cutD
  rw [r.length]
  exact (r.drop _).take _
def mSlice (g : MD) (l h : Rho → Option (Option Int × Rho)) : MD := fun ρ => match g ρ with
  | some (x, ρ1) => (match l ρ1 with
    | some (lo, ρ2) => (match h ρ2 with
      | some (hi, ρ3) => (match dSlice x lo hi with
        | some d => some (d, ρ3)
        | none => none)
      | none => none)
    | none => none)
  | none => none
theorem cut_whole {α : Type} {xs : List α} {lo hi : Option Int} (h : HT.sIx xs.length 0 lo = 0 ∧ HT.sIx xs.length xs.length hi = xs.length) : cutD xs lo hi = xs := by
  unfold cutD
  rw [h.1, h.2]
  simp
theorem sd_slice {g : MD} {l h : Rho → Option (Option Int × Rho)} {lo hi : Option Expr} {p2 : Pos} (he : SD X cl e g) (hl : SPO X cl lo l) (hh : SPO X cl hi h) : SD X cl (.Subscript e (.Slice lo hi none p2) pos) (mSlice g l h) :=
  PE.weak (pe_slice (sl_tupA.or (sl_list.or sl_str)) he hl hh) fun σ H Q ⟨G, L, ρ, d, ρ', hs, hg, q⟩ => by
    unfold mSlice at hg
    split at hg
    · rename_i x ρ1 e1
      split at hg
      · rename_i lo' ρ2 e2
        split at hg
        · rename_i hi' ρ3 e3
          split at hg
          · rename_i d' e4
            cases hg
            refine ⟨G, L, ρ, x, ρ1, hs, e1, fun v H1 G1 L1 s1 r1 f1 => ⟨G1, L1, ρ1, lo', ρ2, s1, e2, fun H2 G2 L2 s2 f2 => ⟨G2, L2, ρ2, hi', _, s2, e3, fun H3 G3 L3 s3 f3 => ?_⟩⟩⟩
            have r3 := (r1.mono f2.le).mono f3.le
            have f := (f1.trans f2).trans f3
            have hle := s3.le
            unfold dSlice at e4
            split at e4
            · rename_i ds
              cases e4
              obtain ⟨p, vs, rfl, hp, rv⟩ := r3
              refine .inl ⟨p, vs, rfl, (hle.tup hp).seq, fun z => ?_, fun z w hw => ?_⟩
              · have e5 : cutD ds lo' hi' = ds := cut_whole (by rw [← rv.length]; exact z)
                rw [e5] at q
                exact q _ _ _ _ s3 ⟨p, vs, rfl, hp, rv⟩ f
              · have ex := Ext.new hle hw (.tup (cutV vs lo' hi'))
                obtain ⟨s4, f4⟩ := s3.ext ex
                exact q _ _ _ _ s4 ⟨w, _, rfl, .inl upd_same, (rv.mono ex.le).cut _ _⟩ (f.trans f4)
            · rename_i ds
              cases e4
              obtain ⟨p, vs, rfl, hp, rv⟩ := r3
              refine .inr (.inl ⟨p, vs, rfl, SqL.of (hle _ _ hp), fun w hw => ?_⟩)
              have ex := Ext.new hle hw (.lst (cutV vs lo' hi'))
              obtain ⟨s4, f4⟩ := s3.ext ex
              exact q _ _ _ _ s4 ⟨w, _, rfl, upd_same, (rv.mono ex.le).cut _ _⟩ (f.trans f4)
            · rename_i ds
              cases e4
              obtain ⟨p, vs, rfl, hp, rv⟩ := r3
              refine .inr (.inl ⟨p, vs, rfl, hle.seq hp, fun w hw => ?_⟩)
              have ex := Ext.new hle hw (.lst (cutV vs lo' hi'))
              obtain ⟨s4, f4⟩ := s3.ext ex
              exact q _ _ _ _ s4 ⟨w, _, rfl, upd_same, (rv.mono ex.le).cut _ _⟩ (f.trans f4)
            · split at e4
              · rename_i z
                cases e4
                cases r3
                exact .inr (.inr ⟨_, rfl, of_decide_eq_true z, q _ _ _ _ s3 rfl f⟩)
              · cases e4
            · cases e4
          · cases hg
        · cases hg
      · cases hg
    · cases hg
/-- xs[::-1] -/
def dRev : D → Option D
  | .lst ds => some (.lst ds.reverse)
  | .rol ds => some (.lst ds.reverse)
  | _ => none
theorem sd_rev {g : MD} {k : Nat} {p1 p2 p3 : Pos} (he : SD X cl e g) : SD X cl (.Subscript e (.Slice none none (some (.UnaryOp .USub (.Constant (.int 1) k p1) p2)) p3) pos) (mOp1 dRev g) :=
  PE.weak (pe_revL he) fun σ H Q h => one (r := fun x H1 Q => ∃ a xs, x = .ref a ∧ SqL X.K H1 a xs ∧ ∀ p, H1 p = none → Q (.ref p) (upd H1 p (.lst xs.reverse))) (fun G H x dx d Q hle him rx e q => by
    unfold dRev at e
    split at e
    · cases e
      obtain ⟨p, vs, rfl, hp, rv⟩ := rx
      refine ⟨p, vs, rfl, SqL.of (hle _ _ hp), fun w hw => ?_⟩
      have ex := Ext.new hle hw (.lst vs.reverse)
      exact q _ _ _ ex ⟨w, _, rfl, upd_same, (rv.mono ex.le).rev⟩
    · cases e
      obtain ⟨p, vs, rfl, hp, rv⟩ := rx
      refine ⟨p, vs, rfl, hle.seq hp, fun w hw => ?_⟩
      have ex := Ext.new hle hw (.lst vs.reverse)
      exact q _ _ _ ex ⟨w, _, rfl, upd_same, (rv.mono ex.le).rev⟩
    · cases e) h

/-! ### built-ins -/
def RnOk (K : PySem.W.Frag) (cl : Cl) (r : List V → Hp → VK → Prop) (f : List D → Option D) : Prop := ∀ (G H : Hp) (xs : List V) (ds : List D) (d : D) (Q : VK), Le G H → (∀ b xs, H b = some (.tup xs) → G b = some (.tup xs)) → RepVs K cl G xs ds → f ds = some d →
  (∀ v H' G', Ext H G H' G' → RepV K cl G' v d → Q v H') → r xs H Q
def mFn (f : List D → Option D) (g : MDs) : MD := fun ρ => match g ρ with
  | some (ds, ρ1) => (match f ds with
    | some d => some (d, ρ1)
    | none => none)
  | none => none
theorem fnD {g : MDs} {r : List V → Hp → VK → Prop} {f : List D → Option D} (hr : RnOk X.K cl r f) {σ : St} {H : Hp} {Q : VK} (h : tD X cl (mFn f g) σ H Q) : tDs X cl g σ H fun xs H1 => r xs H1 Q := by
  obtain ⟨G, L, ρ, d, ρ', hs, hg, q⟩ := h
  unfold mFn at hg
  split at hg
  · rename_i ds ρ1 e1
    split at hg
    · rename_i d' e2
      cases hg
      refine ⟨G, L, ρ, ds, _, hs, e1, fun vs H1 G1 L1 s1 r1 f1 => hr G1 H1 vs ds _ Q s1.le s1.rep.imm r1 e2 fun z H3 G3 ex rz => ?_⟩
      obtain ⟨s3, f3⟩ := s1.ext ex
      exact q z H3 G3 L1 s3 rz (f1.trans f3)
    · cases hg
  · cases hg
theorem sd_callB {id : String} {x : Str} {p : Pos} {r : List V → Hp → VK → Prop} {f : List D → Option D} {g : MDs} (hc : CallR X (.builtin id) r) (hr : RnOk X.K cl r f) (hm : X.mg x = none) (hv : bootBuiltins x = some (.builtin id)) (ha : SDs X cl (e :: es) g) (hg : Gl X x := by rfl)
    (hn : x ≠ "__name__" := by decide) (hdb : (x == ("__debug__" : Str)) = false := by decide) (he : starEach (e :: es) X.env = (false, eval e X.env) :: starEach es X.env := by rfl) (hpl : (backTo pos (starEach es X.env)).any (·.1) = false := by rfl) :
    SD X cl (.Call (.Name x p) (e :: es) [] pos) (mFn f g) := PE.weak (pe_callB hc hg hm hv ha hn hdb he hpl) fun _ _ _ h => fnD hr h
theorem sd_callTy {T : String} {x : Str} {p : Pos} {r : List V → Hp → VK → Prop} {f : List D → Option D} {g : MDs} (hc : CallR X (.type T) r) (hr : RnOk X.K cl r f) (hm : X.mg x = none) (hv : bootBuiltins x = some (.type T)) (ha : SDs X cl (e :: es) g) (hg : Gl X x := by rfl)
    (hn : x ≠ "__name__" := by decide) (hdb : (x == ("__debug__" : Str)) = false := by decide) (he : starEach (e :: es) X.env = (false, eval e X.env) :: starEach es X.env := by rfl) (hpl : (backTo pos (starEach es X.env)).any (·.1) = false := by rfl) :
    SD X cl (.Call (.Name x p) (e :: es) [] pos) (mFn f g) := PE.weak (pe_callTy hc hg hm hv ha hn hdb he hpl) fun _ _ _ h => fnD hr h
def fLen : List D → Option D
  | [.tup ds] => some (.int ds.length)
  | [.lst ds] => some (.int ds.length)
  | [.rol ds] => some (.int ds.length)
  | [.str z] => (match decide (z.length ≤ sizeLine) with
    | true => some (.int z.length)
    | false => none)
  | _ => none
theorem one_val {K : PySem.W.Frag} {G : Hp} {xs : List V} {d : D} (r : RepVs K cl G xs [d]) : ∃ v, xs = [v] ∧ RepV K cl G v d := by
  obtain ⟨v, ws, e, r, rs⟩ := r
  cases rs
  exact ⟨v, e, r⟩
theorem ok_len {K : PySem.W.Frag} : RnOk K cl (fun xs H Q => ∃ x n, xs = [x] ∧ LenV K x H n ∧ Q (.int n) H) fLen := fun G H xs ds d Q hle him r e q => by
  unfold fLen at e
  split at e
  · cases e
    obtain ⟨v, rfl, p, vs, rfl, hp, rv⟩ := one_val r
    exact ⟨_, _, rfl, .inr ⟨vs, (hle.tup hp).seq, rfl⟩, by rw [rv.length]; exact q _ _ _ (Ext.refl hle) rfl⟩
  · cases e
    obtain ⟨v, rfl, p, vs, rfl, hp, rv⟩ := one_val r
    exact ⟨_, _, rfl, .inl ⟨vs, SqL.of (hle _ _ hp), rfl⟩, by rw [rv.length]; exact q _ _ _ (Ext.refl hle) rfl⟩
  · cases e
    obtain ⟨v, rfl, p, vs, rfl, hp, rv⟩ := one_val r
    exact ⟨_, _, rfl, .inl ⟨vs, hle.seq hp, rfl⟩, by rw [rv.length]; exact q _ _ _ (Ext.refl hle) rfl⟩
  · split at e
    · rename_i z
      cases e
      obtain ⟨v, rfl, rfl⟩ := one_val r
      exact ⟨_, _, rfl, ⟨of_decide_eq_true z, rfl⟩, q _ _ _ (Ext.refl hle) rfl⟩
    · cases e
  · cases e
def fAbs : List D → Option D
  | [.int i] => some (.int (if i < 0 then -i else i))
  | _ => none
theorem ok_abs {K : PySem.W.Frag} : RnOk K cl (fun xs H Q => ∃ i, xs = [.int i] ∧ Q (.int (if i < 0 then -i else i)) H) fAbs := fun G H xs ds d Q hle him r e q => by
  unfold fAbs at e
  split at e
  · cases e
    obtain ⟨v, rfl, rfl⟩ := one_val r
    exact ⟨_, rfl, q _ _ _ (Ext.refl hle) rfl⟩
  · cases e
def fInt : List D → Option D
  | [.int i] => some (.int i)
  | [.bl k] => some (.int (if k then 1 else 0))
  | _ => none
theorem ok_int {K : PySem.W.Frag} : RnOk K cl (fun xs H Q => (∃ i, xs = [.int i] ∧ Q (.int i) H) ∨ ∃ k, xs = [.bl k] ∧ Q (.int (if k then 1 else 0)) H) fInt := fun G H xs ds d Q hle him r e q => by
  unfold fInt at e
  split at e
  · cases e
    obtain ⟨v, rfl, rfl⟩ := one_val r
    exact .inl ⟨_, rfl, q _ _ _ (Ext.refl hle) rfl⟩
  · cases e
    obtain ⟨v, rfl, rfl⟩ := one_val r
    exact .inr ⟨_, rfl, q _ _ _ (Ext.refl hle) rfl⟩
  · cases e
def fTup : List D → Option D
  | [.tup ds] => some (.tup ds)
  | [.lst ds] => some (.tup ds)
  | [.rol ds] => some (.tup ds)
  | _ => none
theorem ok_tup {K : PySem.W.Frag} : RnOk K cl (fun xs H Q => ∃ p ys, xs = [.ref p] ∧ ((SqL K H p ys ∧ ∀ l, H l = none → Q (.ref l) (upd H l (.tup ys))) ∨ (SqT K H p ys ∧ Q (.ref p) H))) fTup := fun G H xs ds d Q hle him r e q => by
  unfold fTup at e
  split at e
  · cases e
    obtain ⟨v, rfl, p, vs, rfl, hp, rv⟩ := one_val r
    exact ⟨p, vs, rfl, .inr ⟨(hle.tup hp).seq, q _ _ _ (Ext.refl hle) ⟨p, vs, rfl, hp, rv⟩⟩⟩
  · cases e
    obtain ⟨v, rfl, p, vs, rfl, hp, rv⟩ := one_val r
    refine ⟨p, vs, rfl, .inl ⟨SqL.of (hle _ _ hp), fun w hw => ?_⟩⟩
    have ex := Ext.new hle hw (.tup vs)
    exact q _ _ _ ex ⟨w, _, rfl, .inl upd_same, rv.mono ex.le⟩
  · cases e
    obtain ⟨v, rfl, p, vs, rfl, hp, rv⟩ := one_val r
    refine ⟨p, vs, rfl, .inl ⟨hle.seq hp, fun w hw => ?_⟩⟩
    have ex := Ext.new hle hw (.tup vs)
    exact q _ _ _ ex ⟨w, _, rfl, .inl upd_same, rv.mono ex.le⟩
  · cases e
theorem sd_len {p : Pos} {g : MD} (hm : X.mg "len" = none) (ha : SD X cl e g) (hg : Gl X "len" := by rfl) (he : starEach [e] X.env = [(false, eval e X.env)] := by rfl) : SD X cl (.Call (.Name "len" p) [e] [] pos) (mFn fLen (dsCons g dsNil)) :=
  sd_callB call_len ok_len hm PySem.boot_len (sds_cons ha sds_nil he) hg (by decide) (by decide) he rfl
theorem sd_abs {p : Pos} {g : MD} (hm : X.mg "abs" = none) (ha : SD X cl e g) (hg : Gl X "abs" := by rfl) (he : starEach [e] X.env = [(false, eval e X.env)] := by rfl) : SD X cl (.Call (.Name "abs" p) [e] [] pos) (mFn fAbs (dsCons g dsNil)) :=
  sd_callB call_abs ok_abs hm (by decide +kernel) (sds_cons ha sds_nil he) hg (by decide) (by decide) he rfl
theorem sd_intC {p : Pos} {g : MD} (hm : X.mg "int" = none) (ha : SD X cl e g) (hg : Gl X "int" := by rfl) (he : starEach [e] X.env = [(false, eval e X.env)] := by rfl) : SD X cl (.Call (.Name "int" p) [e] [] pos) (mFn fInt (dsCons g dsNil)) :=
  sd_callTy call_int1 ok_int hm (by decide +kernel) (sds_cons ha sds_nil he) hg (by decide) (by decide) he rfl
theorem sd_tuple {p : Pos} {g : MD} (hm : X.mg "tuple" = none) (ha : SD X cl e g) (hg : Gl X "tuple" := by rfl) (he : starEach [e] X.env = [(false, eval e X.env)] := by rfl) : SD X cl (.Call (.Name "tuple" p) [e] [] pos) (mFn fTup (dsCons g dsNil)) :=
  sd_callTy call_tuple_of ok_tup hm (by decide +kernel) (sds_cons ha sds_nil he) hg (by decide) (by decide) he rfl
/-- list(x): a new list -/
def oList (g : MD) : MO := fun ρ => match g ρ with
  | some (.tup ds, ρ1) => some (.lst (ds.map .fz), ρ1)
  | some (.lst ds, ρ1) => some (.lst (ds.map .fz), ρ1)
  | some (.rol ds, ρ1) => some (.lst (ds.map .fz), ρ1)
  | _ => none
theorem so_list {p : Pos} {g : MD} (hm : X.mg "list" = none) (ha : SD X cl e g) (hg : Gl X "list" := by rfl) (he : starEach [e] X.env = [(false, eval e X.env)] := by rfl) : SO X cl (.Call (.Name "list" p) [e] [] pos) (oList g) :=
  PE.weak (pe_callTy call_list_of hg hm (by decide +kernel) (sds_cons ha sds_nil he) (by decide) (by decide) he rfl) fun σ H Q ⟨G, L, ρ, d, ρ', hs, hg, q⟩ => by
    unfold oList at hg
    split at hg
    · rename_i ds ρ1 e1
      cases hg
      refine ⟨G, L, ρ, [.tup ds], ρ', hs, by simp [dsCons, dsNil, e1], fun vs H1 G1 L1 s1 r1 f1 => ?_⟩
      obtain ⟨v, rfl, p, ws, rfl, hp, rv⟩ := one_val r1
      refine ⟨p, ws, rfl, .inr (s1.le.tup hp).seq, fun w hw => ?_⟩
      obtain ⟨s2, f2⟩ := s1.pushLst hw rv
      exact q _ _ _ _ s2 (f1.trans f2)
    · rename_i ds ρ1 e1
      cases hg
      refine ⟨G, L, ρ, [.lst ds], ρ', hs, by simp [dsCons, dsNil, e1], fun vs H1 G1 L1 s1 r1 f1 => ?_⟩
      obtain ⟨v, rfl, p, ws, rfl, hp, rv⟩ := one_val r1
      refine ⟨p, ws, rfl, .inl (SqL.of (s1.le _ _ hp)), fun w hw => ?_⟩
      obtain ⟨s2, f2⟩ := s1.pushLst hw rv
      exact q _ _ _ _ s2 (f1.trans f2)
    · rename_i ds ρ1 e1
      cases hg
      refine ⟨G, L, ρ, [.rol ds], ρ', hs, by simp [dsCons, dsNil, e1], fun vs H1 G1 L1 s1 r1 f1 => ?_⟩
      obtain ⟨v, rfl, p, ws, rfl, hp, rv⟩ := one_val r1
      refine ⟨p, ws, rfl, .inl (s1.le.seq hp), fun w hw => ?_⟩
      obtain ⟨s2, f2⟩ := s1.pushLst hw rv
      exact q _ _ _ _ s2 (f1.trans f2)
    · cases hg
end
end PI
set_option Elab.async false
set_option linter.all false
set_option maxRecDepth 100000
set_option maxHeartbeats 1000000
set_option autoImplicit false
/-! PI8: tests, attributes; slots set and dropped; targets; what is walked. -/
namespace PI
open PySem PySem.Spec L2

section
variable {X : Cx} {cl : Cl} {e a b c o : Expr} {es rest : List Expr} {pos : Pos}
/-! ### tests -/
def bOf (g : MD) : MB := fun ρ => match g ρ with
  | some (.bl k, ρ1) => some (k, ρ1)
  | _ => none
theorem bOf_some {g : MD} {ρ ρ' : Rho} {k : Bool} (h : bOf g ρ = some (k, ρ')) : g ρ = some (.bl k, ρ') := by
  unfold bOf at h
  split at h
  · rename_i k' ρ1 e1
    cases h
    exact e1
  · cases h
theorem st_val {g : MD} (h : SD X cl e g) (he : ∀ whole, isTrue e X.env whole = (do let v ← whole; standAt e.pos; holding [v] (truthy v)) := by intro _; rfl) : ST X cl e (bOf g) := PT.weak (pt_val h he) fun σ H Q ⟨G, L, ρ, k, ρ', hs, hg, q⟩ =>
  ⟨G, L, ρ, _, _, hs, bOf_some hg, fun v H' G' L' s r f => ⟨k, r, q H' G' L' s f⟩⟩
theorem st_cmp {op : CmpOp} {r : R2} {f : D → D → Option D} {ga gb : MD} (ho : OpR X (compareOp op) r) (hr : R2Ok X.K cl r f) (ha : SD X cl a ga) (hb : SD X cl b gb) (hm : behindInMarks op b = false := by rfl) : ST X cl (.Compare a [op] [b] pos) (bOf (mOp2 f ga gb)) :=
  PT.weak (pt_cmpR ho ha hb hm) fun σ H Q ⟨G, L, ρ, k, ρ', hs, hg, q⟩ => two hr ⟨G, L, ρ, _, _, hs, bOf_some hg, fun v H' G' L' s r f => ⟨k, r, q H' G' L' s f⟩⟩
theorem st_eq {ga gb : MD} (hu : X.A.units + 64 < cLine) (ha : SD X cl a ga) (hb : SD X cl b gb) : ST X cl (.Compare a [.Eq] [b] pos) (bOf (mOp2 dEqD ga gb)) := st_cmp (op_eq.or (op_eqD hu)) ok_eq ha hb (nomark _)
theorem st_ne {ga gb : MD} (hu : X.A.units + 64 < cLine) (ha : SD X cl a ga) (hb : SD X cl b gb) : ST X cl (.Compare a [.NotEq] [b] pos) (bOf (mOp2 dNeD ga gb)) := st_cmp (op_ne.or (op_neD hu)) ok_ne ha hb (nomark _)
theorem st_lt {ga gb : MD} (ha : SD X cl a ga) (hb : SD X cl b gb) : ST X cl (.Compare a [.Lt] [b] pos) (bOf (mOp2 (dIntB fun i j => decide (i < j)) ga gb)) := st_cmp op_lt ok_intB ha hb (nomark _)
theorem st_le {ga gb : MD} (ha : SD X cl a ga) (hb : SD X cl b gb) : ST X cl (.Compare a [.LtE] [b] pos) (bOf (mOp2 (dIntB fun i j => decide (i ≤ j)) ga gb)) := st_cmp op_le ok_intB ha hb (nomark _)
theorem st_gt {ga gb : MD} (ha : SD X cl a ga) (hb : SD X cl b gb) : ST X cl (.Compare a [.Gt] [b] pos) (bOf (mOp2 (dIntB fun i j => decide (j < i)) ga gb)) := st_cmp op_gt ok_intB ha hb (nomark _)
theorem st_ge {ga gb : MD} (ha : SD X cl a ga) (hb : SD X cl b gb) : ST X cl (.Compare a [.GtE] [b] pos) (bOf (mOp2 (dIntB fun i j => decide (j ≤ i)) ga gb)) := st_cmp op_ge ok_intB ha hb (nomark _)
theorem okr_is {K : PySem.W.Frag} : R2Ok K cl (fun x y H Q => (y = .non ∧ Q (.bl (decide (x = .non))) H) ∨ rIsB x y H Q) dIs := fun G H x y dx dy d Q hle him rx ry e q => by
  obtain ⟨k, rfl, z⟩ := dIs_ok rx ry e
  have q := q (.bl k) H G (Ext.refl hle) rfl
  rcases z with ⟨z1, z2⟩ | ⟨p, p', z1, z2, z3⟩
  · exact .inl ⟨z1, by rw [← z2]; exact q⟩
  · exact .inr ⟨p, p', z1, z2, by rw [← z3]; exact q⟩
theorem okr_isNot {K : PySem.W.Frag} : R2Ok K cl (fun x y H Q => (y = .non ∧ Q (.bl (!decide (x = .non))) H) ∨ rNotB x y H Q) dIsNot := fun G H x y dx dy d Q hle him rx ry e q => by
  unfold dIsNot at e
  split at e
  · rename_i k e1
    cases e
    obtain ⟨k', ek, z⟩ := dIs_ok rx ry e1
    cases ek
    have q := q (.bl !k) H G (Ext.refl hle) rfl
    rcases z with ⟨z1, z2⟩ | ⟨p, p', z1, z2, z3⟩
    · exact .inl ⟨z1, by rw [← z2]; exact q⟩
    · exact .inr ⟨p, p', z1, z2, by rw [← z3]; exact q⟩
  · cases e
theorem st_is {ga gb : MD} (ha : SD X cl a ga) (hb : SD X cl b gb) : ST X cl (.Compare a [.Is] [b] pos) (bOf (mOp2 dIs ga gb)) := st_cmp (op_isN.or op_isBl) okr_is ha hb (nomark _)
theorem st_isNot {ga gb : MD} (ha : SD X cl a ga) (hb : SD X cl b gb) : ST X cl (.Compare a [.IsNot] [b] pos) (bOf (mOp2 dIsNot ga gb)) := st_cmp (op_notN.or op_notBl) okr_isNot ha hb (nomark _)
def bNot (g : MB) : MB := fun ρ => match g ρ with
  | some (k, ρ1) => some (!k, ρ1)
  | none => none
theorem st_not {g : MB} (h : ST X cl a g) : ST X cl (.UnaryOp .Not a pos) (bNot g) := PT.weak (pt_not h) fun σ H Q ⟨G, L, ρ, k, ρ', hs, hg, q⟩ => by
  unfold bNot at hg
  split at hg
  · rename_i k' ρ1 e1
    cases hg
    exact ⟨G, L, ρ, k', _, hs, e1, q⟩
  · cases hg
def bAnd (g h : MB) : MB := fun ρ => match g ρ with
  | some (true, ρ1) => h ρ1
  | some (false, ρ1) => some (false, ρ1)
  | none => none
def bOr (g h : MB) : MB := fun ρ => match g ρ with
  | some (true, ρ1) => some (true, ρ1)
  | some (false, ρ1) => h ρ1
  | none => none
def SW (X : Cx) (cl : Cl) (e : Expr) (g : MB) : Prop := PW X e (tB' X cl g)
theorem PW.weak {t t' : TT} (h : PW X e t) (w : ∀ σ H Q, t' σ H Q → t σ H Q) : PW X e t' := ⟨fun whole pins s σ H Q I q => h.run whole pins s σ H Q I (w σ H Q q)⟩
theorem SW.st {g : MB} (h : SW X cl e g) : ST X cl e g := PW.pt h
theorem sw_and1 {g : MB} (h : ST X cl a g) : SW X cl (.BoolOp .And [a] pos) g := pw_and1 h
theorem sw_or1 {g : MB} (h : ST X cl a g) : SW X cl (.BoolOp .Or [a] pos) g := pw_or1 h
theorem sw_and {g h : MB} (ha : ST X cl a g) (hb : SW X cl (.BoolOp .And (b :: rest) pos) h) : SW X cl (.BoolOp .And (a :: b :: rest) pos) (bAnd g h) := PW.weak (pw_and ha hb) fun σ H Q ⟨G, L, ρ, k, ρ', hs, hg, q⟩ => by
  unfold bAnd at hg
  split at hg
  · rename_i ρ1 e1
    exact ⟨G, L, ρ, true, ρ1, hs, e1, fun H' G' L' s f => iteT ⟨G', L', ρ1, k, ρ', s, hg, fun H2 G2 L2 s2 f2 => q H2 G2 L2 s2 (f.trans f2)⟩⟩
  · rename_i ρ1 e1
    cases hg
    exact ⟨G, L, ρ, false, _, hs, e1, fun H' G' L' s f => iteF (q H' G' L' s f)⟩
  · cases hg
theorem sw_or {g h : MB} (ha : ST X cl a g) (hb : SW X cl (.BoolOp .Or (b :: rest) pos) h) : SW X cl (.BoolOp .Or (a :: b :: rest) pos) (bOr g h) := PW.weak (pw_or ha hb) fun σ H Q ⟨G, L, ρ, k, ρ', hs, hg, q⟩ => by
  unfold bOr at hg
  split at hg
  · rename_i ρ1 e1
    cases hg
    exact ⟨G, L, ρ, true, _, hs, e1, fun H' G' L' s f => iteT (q H' G' L' s f)⟩
  · rename_i ρ1 e1
    exact ⟨G, L, ρ, false, ρ1, hs, e1, fun H' G' L' s f => iteF ⟨G', L', ρ1, k, ρ', s, hg, fun H2 G2 L2 s2 f2 => q H2 G2 L2 s2 (f.trans f2)⟩⟩
  · cases hg
/-- truth of any frozen value -/
def dTru : D → Option Bool
  | .non => some false
  | .bl b => some b
  | .int i => some (i != 0)
  | .str y => (match decide (y.length ≤ sizeLine) with
    | true => some ((y.length : Int) != 0)
    | false => none)
  | .tup ds => some (!ds.isEmpty)
  | .lst ds => some (!ds.isEmpty)
  | .rol ds => some (!ds.isEmpty)
  | _ => none
def bTru (g : MD) : MB := fun ρ => match g ρ with
  | some (d, ρ1) => (match dTru d with
    | some k => some (k, ρ1)
    | none => none)
  | none => none
theorem RepVs.emp {K : PySem.W.Frag} {G : Hp} {ds : List D} {vs : List V} (r : RepVs K cl G vs ds) : ds.isEmpty = vs.isEmpty := by
  have := r.length
  cases ds <;> cases vs <;> simp_all
theorem st_tru {g : MD} (h : SD X cl a g) (he : ∀ whole, isTrue a X.env whole = (do let v ← whole; standAt a.pos; holding [v] (truthy v)) := by intro _; rfl) : ST X cl a (bTru g) := PT.weak (pt_truth h he) fun σ H Q ⟨G, L, ρ, k, ρ', hs, hg, q⟩ => by
  unfold bTru at hg
  split at hg
  · rename_i d ρ1 e1
    split at hg
    · rename_i k' e2
      cases hg
      refine ⟨G, L, ρ, d, _, hs, e1, fun v H' G' L' s r f => ⟨k, ?_, q H' G' L' s f⟩⟩
      unfold dTru at e2
      split at e2
      · cases e2; cases r; rfl
      · cases e2; cases r; rfl
      · cases e2; cases r; rfl
      · split at e2
        · rename_i z
          cases e2; cases r
          exact ⟨of_decide_eq_true z, rfl⟩
        · cases e2
      · cases e2
        obtain ⟨p, vs, rfl, hp, rv⟩ := r
        exact .inr (.inl ⟨vs, (s.le.tup hp).seq, by rw [rv.emp]⟩)
      · cases e2
        obtain ⟨p, vs, rfl, hp, rv⟩ := r
        exact .inl ⟨vs, SqL.of (s.le _ _ hp), by rw [rv.emp]⟩
      · cases e2
        obtain ⟨p, vs, rfl, hp, rv⟩ := r
        exact .inl ⟨vs, s.le.seq hp, by rw [rv.emp]⟩
      · cases e2
    · cases hg
  · cases hg
/-! ### and, or, not, if as values -/
def mBool (g : MB) : MD := fun ρ => match g ρ with
  | some (k, ρ1) => some (.bl k, ρ1)
  | none => none
def mAnd (g h : MD) : MD := fun ρ => match g ρ with
  | some (.bl true, ρ1) => h ρ1
  | some (.bl false, ρ1) => some (.bl false, ρ1)
  | _ => none
def mOr (g h : MD) : MD := fun ρ => match g ρ with
  | some (.bl true, ρ1) => some (.bl true, ρ1)
  | some (.bl false, ρ1) => h ρ1
  | _ => none
theorem sd_one {op : BoolOp} {g : MD} (h : SD X cl a g) : SD X cl (.BoolOp op [a] pos) g := pe_one h
theorem sd_and {g h : MD} (ha : SD X cl a g) (hb : SD X cl (.BoolOp .And (b :: rest) pos) h) : SD X cl (.BoolOp .And (a :: b :: rest) pos) (mAnd g h) := PE.weak (pe_and ha hb) fun σ H Q ⟨G, L, ρ, k, ρ', hs, hg, q⟩ => by
  unfold mAnd at hg
  split at hg
  · rename_i ρ1 e1
    exact ⟨G, L, ρ, _, ρ1, hs, e1, fun v H' G' L' s r f => ⟨true, r, iteT ⟨G', L', ρ1, k, ρ', s, hg, fun v2 H2 G2 L2 s2 r2 f2 => q v2 H2 G2 L2 s2 r2 (f.trans f2)⟩⟩⟩
  · rename_i ρ1 e1
    cases hg
    exact ⟨G, L, ρ, _, _, hs, e1, fun v H' G' L' s r f => ⟨false, r, iteF (q _ H' G' L' s rfl f)⟩⟩
  · cases hg
theorem sd_or {g h : MD} (ha : SD X cl a g) (hb : SD X cl (.BoolOp .Or (b :: rest) pos) h) : SD X cl (.BoolOp .Or (a :: b :: rest) pos) (mOr g h) := PE.weak (pe_or ha hb) fun σ H Q ⟨G, L, ρ, k, ρ', hs, hg, q⟩ => by
  unfold mOr at hg
  split at hg
  · rename_i ρ1 e1
    cases hg
    exact ⟨G, L, ρ, _, _, hs, e1, fun v H' G' L' s r f => ⟨true, r, iteT (q _ H' G' L' s rfl f)⟩⟩
  · rename_i ρ1 e1
    exact ⟨G, L, ρ, _, ρ1, hs, e1, fun v H' G' L' s r f => ⟨false, r, iteF ⟨G', L', ρ1, k, ρ', s, hg, fun v2 H2 G2 L2 s2 r2 f2 => q v2 H2 G2 L2 s2 r2 (f.trans f2)⟩⟩⟩
  · cases hg
def dNot : D → Option D
  | .bl k => some (.bl !k)
  | _ => none
theorem sd_not {g : MD} (ha : SD X cl a g) : SD X cl (.UnaryOp .Not a pos) (mOp1 dNot g) := PE.weak (pe_not ha) fun σ H Q h => one (r := fun x H1 Q => ∃ c, x = .bl c ∧ Q (.bl (!c)) H1) (fun G H x dx d Q hle him rx e q => by
  unfold dNot at e
  split at e
  · cases e
    exact ⟨_, rx, q _ _ _ (Ext.refl hle) rfl⟩
  · cases e) h
def mIf (c : MB) (g h : MD) : MD := fun ρ => match c ρ with
  | some (true, ρ1) => g ρ1
  | some (false, ρ1) => h ρ1
  | none => none
theorem sd_if {k : MB} {g h : MD} (hc : ST X cl c k) (ha : SD X cl a g) (hb : SD X cl b h) : SD X cl (.IfExp c a b pos) (mIf k g h) := PE.weak (pe_ifExp hc ha hb) fun σ H Q ⟨G, L, ρ, d, ρ', hs, hg, q⟩ => by
  unfold mIf at hg
  split at hg
  · rename_i ρ1 e1
    exact ⟨G, L, ρ, _, ρ1, hs, e1, fun H' G' L' s f => iteT ⟨G', L', ρ1, d, ρ', s, hg, fun v2 H2 G2 L2 s2 r2 f2 => q v2 H2 G2 L2 s2 r2 (f.trans f2)⟩⟩
  · rename_i ρ1 e1
    exact ⟨G, L, ρ, _, ρ1, hs, e1, fun H' G' L' s f => iteF ⟨G', L', ρ1, d, ρ', s, hg, fun v2 H2 G2 L2 s2 r2 f2 => q v2 H2 G2 L2 s2 r2 (f.trans f2)⟩⟩
  · cases hg

/-! ### attributes of frozen instances -/
def lookS : List Str → List D → Str → Option D
  | k :: ks, d :: ds, j => if k = j then some d else lookS ks ds j
  | _, _, _ => none
theorem lookS_ok {K : PySem.W.Frag} {G : Hp} : ∀ {fs : List (Str × V)} {ds : List D} {j : Str} {d : D}, RepVs K cl G (fs.map (·.2)) ds → lookS (fs.map (·.1)) ds j = some d → ∃ v, fs.lookup j = some v ∧ RepV K cl G v d
  | [], _, _, _, _, h => by simp [lookS] at h
  | (k, v) :: kvs, [], _, _, r, _ => by cases r
  | (k, v) :: kvs, d :: ds, j, d', r, h => by
    obtain ⟨v', ws, e, r0, rs⟩ := r
    simp only [List.map_cons, List.cons.injEq] at e
    obtain ⟨rfl, rfl⟩ := e
    simp only [List.map_cons, lookS] at h
    split at h
    · rename_i z
      cases h
      exact ⟨v, by subst z; simp [List.lookup], r0⟩
    · rename_i z
      obtain ⟨w, h1, h2⟩ := lookS_ok rs h
      refine ⟨w, ?_, h2⟩
      have : (j == k) = false := by simpa using fun q => z q.symm
      simp [List.lookup, this, h1]
def dAttr (ok : Nat → Bool) (f : Str) : D → Option D
  | .obj c ns ds => (match ok c with
    | true => lookS ns ds f
    | false => none)
  | _ => none
theorem sd_attr {g : MD} {f : Str} {ok : Nat → Bool} (hok : ∀ c, ok c = true → Cls X.K (cl c) ∧ NoAttr X.K (cl c) f) (he : SD X cl e g) (hb : attributeBase e f X.env (eval e X.env) = eval e X.env := by rfl) : SD X cl (.Attribute e f pos) (mOp1 (dAttr ok f) g) :=
  PE.weak (pe_fld he hb) fun σ H Q h => one (r := fun x H1 Q => ∃ a C dx fs v, x = .ref a ∧ H1 a = some (.ins C dx fs) ∧ Cls X.K C ∧ NoAttr X.K C f ∧ fs.lookup f = some v ∧ Q v H1) (fun G H x dx d Q hle him rx e q => by
    unfold dAttr at e
    split at e
    · split at e
      · rename_i z
        obtain ⟨a, dx, fs, rfl, ha, hn, rv⟩ := rx
        subst hn
        obtain ⟨v, h1, h2⟩ := lookS_ok rv e
        obtain ⟨c1, c2⟩ := hok _ z
        exact ⟨a, _, dx, fs, v, rfl, hle _ _ ha, c1, c2, h1, q _ _ _ (Ext.refl hle) h2⟩
      · cases e
    · cases e) h
end

/-! ### slots set and dropped -/
section
variable {K : PySem.W.Frag} {cl : Cl} {G G' H H' : Hp} {L L' : Lab} {σ σ' τ : St} {ρ ρ' ω : Rho}
/-- the roots without some slots -/
theorem SRep.drop (h : SRep K cl σ H G L ρ) (S : Nat → Bool) {σ' : St} {ρ' : Rho} (hl : σ'.length = ρ'.length) (hin : ∀ i, S i = true → ∀ o, ρ'[i]? ≠ some (some o))
    (hout : ∀ i, S i = false → σ'[i]? = σ[i]? ∧ ρ'[i]? = ρ[i]?) : ∃ L', SRep K cl σ' H G L' ρ' ∧ Frame H G L H G L' := by
  let k : Nat → Option Nat := fun i => if S i = true then none else some i
  have hk : ∀ i j, k i = some j ↔ k j = some i := fun i j => by
    simp only [k]
    constructor <;> intro e <;> split at e <;> simp_all
  refine ⟨subL L k, SRep.of_rep hl (fun i o e => ?_) (h.rep.sub k k hk) fun i => ?_, ⟨fun b x e l => ⟨e, ?_, id⟩, Le.refl⟩⟩
  · cases q : S i with
    | true => exact absurd e (hin i q o)
    | false =>
      rw [(hout i q).2] at e
      rw [(hout i q).1]
      exact h.all i o e
  · simp only [k]
    cases q : S i with
    | true =>
      show none = _
      cases z : rootsOf σ' ρ' i with
      | none => rfl
      | some p => exact absurd (rootsOf_some.mp z).2 (hin i q p.2)
    | false =>
      show rootsOf σ ρ i = _
      unfold rootsOf
      rw [(hout i q).1, (hout i q).2]
  · unfold subL
    rw [l]
/-- a temporary root becomes a slot's -/
theorem SRep.store {v : V} {o : O} (h : SRep K cl (σ ++ [some v]) H G L (ρ ++ [some o])) {i : Nat} (hi : i < ρ.length) : ∃ L', SRep K cl (σ.set i (some v)) H G L' (ρ.set i (some o)) ∧ Frame H G L H G L' := by
  have hl : σ.length = ρ.length := by simpa using h.len
  let n := ρ.length
  let k : Nat → Option Nat := fun j => if j = i then some n else if j < n then some j else none
  let k' : Nat → Option Nat := fun j => if j = n then some i else if j = i then none else if j < n then some j else none
  have hk : ∀ a b, k' a = some b ↔ k b = some a := fun a b => by
    simp only [k, k']
    constructor
    · intro e
      split at e
      · cases e
        rename_i z
        rw [if_pos rfl, z]
      · split at e
        · cases e
        · split at e
          · cases e
            rename_i z1 z2 z3
            rw [if_neg z2, if_pos z3]
          · cases e
    · intro e
      split at e
      · cases e
        rename_i z
        rw [if_pos rfl, z]
      · split at e
        · cases e
          rename_i z1 z2
          rw [if_neg (by omega), if_neg z1, if_pos z2]
        · cases e
  refine ⟨subL L k', SRep.of_rep (by simp [hl]) (fun j o' e => ?_) (h.rep.sub k k' hk) fun j => ?_, ⟨fun b x e l => ⟨e, by unfold subL; rw [l], id⟩, Le.refl⟩⟩
  · by_cases z : j = i
    · subst z
      exact ⟨v, by rw [List.getElem?_set_self (by omega)]⟩
    · rw [List.getElem?_set_ne (Ne.symm z)] at e ⊢
      have hj := (List.getElem?_eq_some_iff.mp e).1
      obtain ⟨v', e'⟩ := h.all j o' (by rw [List.getElem?_append_left hj]; exact e)
      exact ⟨v', by rw [List.getElem?_append_left (by omega)] at e'; exact e'⟩
  · simp only [k]
    by_cases z : j = i
    · subst z
      rw [if_pos rfl]
      show rootsOf _ _ n = _
      rw [rootsOf_app hl, if_neg (by omega)]
      have e1 : rootsOf (σ.set j (some v)) (ρ.set j (some o)) j = some (v, o) := rootsOf_some.mpr ⟨List.getElem?_set_self (by omega), List.getElem?_set_self hi⟩
      rw [e1]
      simp [rootsOf, n]
    · rw [if_neg z]
      by_cases z2 : j < n
      · rw [if_pos z2]
        show rootsOf _ _ j = _
        rw [rootsOf_app hl, if_pos z2]
        unfold rootsOf
        rw [List.getElem?_set_ne (Ne.symm z), List.getElem?_set_ne (Ne.symm z)]
      · rw [if_neg z2, rootsOf_ge (by simp; omega)]
        rfl
theorem SRep.storeFz (h : SRep K cl σ H G L ρ) {v : V} {d : D} (r : RepV K cl G v d) {i : Nat} (hi : i < ρ.length) : ∃ L', SRep K cl (σ.set i (some v)) H G L' (ρ.set i (some (.fz d))) ∧ Frame H G L H G L' := (h.push r).store hi
end

/-! ### targets -/
section
variable (X : Cx) (cl : Cl)
abbrev MG := D → Rho → Option Rho
/-- T: the slots that it may set -/
def tG (T : List Nat) (g : MG) : TG := fun v σ H Q => ∃ G L ρ d ρ', SRep X.K cl σ H G L ρ ∧ RepV X.K cl G v d ∧ g d ρ = some ρ' ∧ ∀ σ' H' G' L', SRep X.K cl σ' H' G' L' ρ' → Frame H G L H' G' L' → (∀ i, i ∉ T → σ'[i]? = σ[i]?) → σ'.length = σ.length → Q σ' H'
def SG (e : Expr) (T : List Nat) (g : MG) : Prop := PG X e (tG X cl T g)
def tGs (T : List Nat) (g : List D → Rho → Option Rho) : TGs := fun vs σ H Q => ∃ G L ρ ds ρ', SRep X.K cl σ H G L ρ ∧ RepVs X.K cl G vs ds ∧ g ds ρ = some ρ' ∧ ∀ σ' H' G' L', SRep X.K cl σ' H' G' L' ρ' → Frame H G L H' G' L' → (∀ i, i ∉ T → σ'[i]? = σ[i]?) → σ'.length = σ.length → Q σ' H'
def SGs (es : List Expr) (T : List Nat) (g : List D → Rho → Option Rho) : Prop := PGs X es (tGs X cl T g)
end
section
variable {X : Cx} {cl : Cl} {e a b c o : Expr} {es rest : List Expr} {pos : Pos}
theorem PG.weak {t t' : TG} (h : PG X e t) (w : ∀ v σ H Q, t' v σ H Q → t v σ H Q) : PG X e t' := ⟨fun pins s σ H v u Q I r q => h.run pins s σ H v u Q I r (w v σ H Q q)⟩
theorem PGs.weak {t t' : TGs} (h : PGs X es t) (w : ∀ v σ H Q, t' v σ H Q → t v σ H Q) : PGs X es t' := ⟨fun pins s σ H v u Q I r q => h.run pins s σ H v u Q I r (w v σ H Q q)⟩
def gSet (i : Nat) : MG := fun d ρ => match decide (i < ρ.length) with
  | true => some (ρ.set i (some (.fz d)))
  | false => none
theorem sg_name (i : Nat) {x : Str} (h : PG X (.Name x pos) (gName i)) : SG X cl (.Name x pos) [i] (gSet i) := PG.weak h fun v σ H Q ⟨G, L, ρ, d, ρ', hs, r, hg, q⟩ => by
  unfold gSet at hg
  split at hg
  · rename_i z
    cases hg
    obtain ⟨L2, s2, f2⟩ := hs.storeFz r (of_decide_eq_true z)
    exact q _ H G L2 s2 f2 (fun j hj => by rw [List.getElem?_set_ne]; intro e; exact hj (by simp [e])) (by simp)
  · cases hg
def gsNil : List D → Rho → Option Rho := fun ds ρ => match ds with
  | [] => some ρ
  | _ => none
def gsCons (g : MG) (f : List D → Rho → Option Rho) : List D → Rho → Option Rho := fun ds ρ => match ds with
  | d :: ds => (match g d ρ with
    | some ρ1 => f ds ρ1
    | none => none)
  | [] => none
theorem sgs_nil : SGs X cl [] [] gsNil := PGs.weak pgs_nil fun v σ H Q ⟨G, L, ρ, ds, ρ', hs, r, hg, q⟩ => by
  unfold gsNil at hg
  split at hg
  · cases hg
    cases r
    exact ⟨rfl, q σ H G L hs Frame.refl (fun _ _ => rfl) rfl⟩
  · cases hg
theorem sgs_cons {T U : List Nat} {g : MG} {f : List D → Rho → Option Rho} (he : SG X cl e T g) (hr : SGs X cl es U f) (hs : (assignEach (e :: es) X.env).map (·.2) = assign e X.env :: (assignEach es X.env).map (·.2) := by rfl) : SGs X cl (e :: es) (T ++ U) (gsCons g f) := PGs.weak (pgs_cons he hr hs) fun v σ H Q ⟨G, L, ρ, ds, ρ', hs, r, hg, q⟩ => by
  unfold gsCons at hg
  split at hg
  · rename_i d ds'
    split at hg
    · rename_i ρ1 e1
      obtain ⟨v1, vs, rfl, r1, r2⟩ := r
      refine ⟨v1, vs, rfl, G, L, ρ, d, ρ1, hs, r1, e1, fun σ1 H1 G1 L1 s1 f1 k1 n1 => ⟨G1, L1, ρ1, ds', ρ', s1, r2.mono f1.le, hg, fun σ2 H2 G2 L2 s2 f2 k2 n2 => ?_⟩⟩
      exact q σ2 H2 G2 L2 s2 (f1.trans f2) (fun i hi => by
        rw [k2 i fun z => hi (List.mem_append_right _ z), k1 i fun z => hi (List.mem_append_left _ z)]) (n2.trans n1)
    · cases hg
  · cases hg
def gTupD (n : Nat) (f : List D → Rho → Option Rho) : MG := fun d ρ => match d with
  | .tup ds => (match decide (ds.length = n) with
    | true => f ds ρ
    | false => none)
  | .lst ds => (match decide (ds.length = n) with
    | true => f ds ρ
    | false => none)
  | _ => none
theorem sg_tup {T : List Nat} {f : List D → Rho → Option Rho} {k n : Nat} (h : SGs X cl es T f) (hc : X.calm = true := by rfl) (hn : (assignEach es X.env).length = n := by rfl) (hst : (assignEach es X.env).findIdx? (·.1) = none := by rfl) : SG X cl (.Tuple es k pos) T (gTupD n f) := by
  have h1 : PG X (.Tuple es k pos) (gTup X.K n (tGs X cl T f)) := pg_tup hc h hn hst
  have h2 : PG X (.Tuple es k pos) (gUnl X.K n (tGs X cl T f)) := pg_unl hc h hn hst
  refine ⟨fun pins s σ H v u Q I r hw => ?_⟩
  obtain ⟨G, L, ρ, d, ρ', hs, rv, hg, q⟩ := hw
  unfold gTupD at hg
  split at hg
  · rename_i ds
    split at hg
    · rename_i z
      obtain ⟨p, vs, rfl, hp, rs⟩ := rv
      exact h1.run pins s σ H _ u Q I r ⟨p, vs, rfl, (hs.le.tup hp).seq, by rw [rs.length]; exact of_decide_eq_true z, G, L, ρ, ds, ρ', hs, rs, hg, q⟩
    · cases hg
  · rename_i ds
    split at hg
    · rename_i z
      obtain ⟨p, vs, rfl, hp, rs⟩ := rv
      exact h2.run pins s σ H _ u Q I r ⟨p, vs, rfl, SqL.of (hs.le _ _ hp), by rw [rs.length]; exact of_decide_eq_true z, G, L, ρ, ds, ρ', hs, rs, hg, q⟩
    · cases hg
  · cases hg
end
end PI
set_option Elab.async false
set_option linter.all false
set_option maxRecDepth 100000
set_option maxHeartbeats 1000000
set_option autoImplicit false
/-! PI9: what is walked; comprehensions; statements. -/
namespace PI
open PySem PySem.Spec L2

/-! ### what is walked -/
section
variable {K : PySem.W.Frag} {cl : Cl}
structure ItOk (K : PySem.W.Frag) (cl : Cl) (J : It) (G : Hp) (ds : List D) : Prop where
  stop : ∀ i H, Le G H → ds.length ≤ i → J.stop i H
  go : ∀ (i : Nat) (H G1 : Hp) (d : D), Le G G1 → Le G1 H → (∀ b xs, H b = some (.tup xs) → G1 b = some (.tup xs)) → ds[i]? = some d → J.go i H ∧ ∀ x H', J.yld i H x H' → ∃ G', Ext H G1 H' G' ∧ RepV K cl G' x d
theorem itOk_lst {a : Addr} {vs : List V} {ds : List D} {G : Hp} (h : SqL K G a vs) (r : RepVs K cl G vs ds) : ItOk K cl (Itl K a) G ds := by
  refine ⟨fun i H hle hi => ⟨vs, hle.seq h, by rw [r.length]; exact hi⟩, fun i H G1 d h1 h2 him e => ?_⟩
  obtain ⟨v, ev, rv⟩ := r.get e
  refine ⟨⟨vs, v, (h1.trans h2).seq h, ev⟩, fun x H' y => ?_⟩
  obtain ⟨rfl, y⟩ := y
  have : x = v := by
    have := y vs ((h1.trans h2).seq h)
    rw [ev] at this
    exact (Option.some.inj this).symm
  subst this
  exact ⟨G1, Ext.refl h2, rv.mono h1⟩
theorem itOk_tup {a : Addr} {vs : List V} {ds : List D} {G : Hp} (h : TupAt K G a vs) (r : RepVs K cl G vs ds) : ItOk K cl (Itt K a) G ds := by
  refine ⟨fun i H hle hi => ⟨vs, (hle.tup h).seq, by rw [r.length]; exact hi⟩, fun i H G1 d h1 h2 him e => ?_⟩
  obtain ⟨v, ev, rv⟩ := r.get e
  refine ⟨⟨vs, v, ((h1.trans h2).tup h).seq, ev⟩, fun x H' y => ?_⟩
  obtain ⟨rfl, y⟩ := y
  have : x = v := by
    have := y vs ((h1.trans h2).tup h).seq
    rw [ev] at this
    exact (Option.some.inj this).symm
  subst this
  exact ⟨G1, Ext.refl h2, rv.mono h1⟩
def rangeD (lo : Int) (n : Nat) : List D := (List.range n).map fun (i : Nat) => D.int (lo + (i : Int))
theorem rangeD_length {lo : Int} {n : Nat} : (rangeD lo n).length = n := by simp [rangeD]
theorem itOk_rng {lo : Int} {n : Nat} {G : Hp} : ItOk K cl (Itr lo n) G (rangeD lo n) := by
  refine ⟨fun i H hle hi => by rw [rangeD_length] at hi; exact hi, fun i H G1 d h1 h2 him e => ?_⟩
  have hi := (List.getElem?_eq_some_iff.mp e).1
  rw [rangeD_length] at hi
  refine ⟨hi, fun x H' y => ?_⟩
  obtain ⟨rfl, rfl⟩ := y
  refine ⟨G1, Ext.refl h2, ?_⟩
  simp [rangeD, hi] at e
  subst e
  rfl
def zipD : List D → List D → List D
  | x :: xs, y :: ys => .tup [x, y] :: zipD xs ys
  | _, _ => []
theorem zipD_length : ∀ (xs ys : List D), (zipD xs ys).length = min xs.length ys.length
  | [], _ => by simp [zipD]
  | _ :: _, [] => by simp [zipD]
  | x :: xs, y :: ys => by simp [zipD, zipD_length xs ys]
theorem zipD_get : ∀ {xs ys : List D} {i : Nat} {d : D}, (zipD xs ys)[i]? = some d → ∃ x y, xs[i]? = some x ∧ ys[i]? = some y ∧ d = .tup [x, y]
  | [], _, _, _, h => by simp [zipD] at h
  | _ :: _, [], _, _, h => by simp [zipD] at h
  | x :: xs, y :: ys, 0, d, h => by
    simp [zipD] at h
    exact ⟨x, y, rfl, rfl, h.symm⟩
  | x :: xs, y :: ys, i + 1, d, h => by
    obtain ⟨a, b, h1, h2, h3⟩ := zipD_get (xs := xs) (ys := ys) (i := i) (by simpa [zipD] using h)
    exact ⟨a, b, by simpa using h1, by simpa using h2, h3⟩
theorem pair_new {G1 H : Hp} (h2 : Le G1 H) {T : Addr} (hT : H T = none) {x y : V} {dx dy : D} (rx : RepV K cl G1 x dx) (ry : RepV K cl G1 y dy) : ∃ G', Ext H G1 (upd H T (.tup [x, y])) G' ∧ RepV K cl G' (.ref T) (.tup [dx, dy]) := by
  have ex := Ext.new h2 hT (.tup [x, y])
  exact ⟨_, ex, T, _, rfl, .inl upd_same, x, [y], rfl, rx.mono ex.le, y, [], rfl, ry.mono ex.le, rfl⟩
theorem itOk_zipL {a b : Addr} {vs ws : List V} {ds es : List D} {G : Hp} (h : SqL K G a vs) (r : RepVs K cl G vs ds) (h' : SqL K G b ws) (r' : RepVs K cl G ws es) : ItOk K cl (Itz K a b) G (zipD ds es) := by
  refine ⟨fun i H hle hi => ?_, fun i H G1 d h1 h2 him e => ?_⟩
  · rw [zipD_length] at hi
    exact ⟨vs, ws, hle.seq h, hle.seq h', by rw [r.length, r'.length]; omega⟩
  · obtain ⟨dx, dy, e1, e2, rfl⟩ := zipD_get e
    obtain ⟨v, ev, rv⟩ := r.get e1
    obtain ⟨w, ew, rw'⟩ := r'.get e2
    have hl := h1.trans h2
    refine ⟨⟨vs, ws, v, w, hl.seq h, hl.seq h', ev, ew⟩, fun x H' y => ?_⟩
    obtain ⟨T, p, q, rfl, hT, rfl, y1, y2⟩ := y
    have e3 : p = v := by have := y1 vs (hl.seq h); rw [ev] at this; exact (Option.some.inj this).symm
    have e4 : q = w := by have := y2 ws (hl.seq h'); rw [ew] at this; exact (Option.some.inj this).symm
    subst e3 e4
    exact pair_new h2 hT (rv.mono h1) (rw'.mono h1)
theorem itOk_zipT {a b : Addr} {vs ws : List V} {ds es : List D} {G : Hp} (h : TupAt K G a vs) (r : RepVs K cl G vs ds) (h' : TupAt K G b ws) (r' : RepVs K cl G ws es) : ItOk K cl (RZ.ItzT K a b) G (zipD ds es) := by
  refine ⟨fun i H hle hi => ?_, fun i H G1 d h1 h2 him e => ?_⟩
  · rw [zipD_length] at hi
    exact ⟨vs, ws, (hle.tup h).seq, (hle.tup h').seq, by rw [r.length, r'.length]; omega⟩
  · obtain ⟨dx, dy, e1, e2, rfl⟩ := zipD_get e
    obtain ⟨v, ev, rv⟩ := r.get e1
    obtain ⟨w, ew, rw'⟩ := r'.get e2
    have hl := h1.trans h2
    refine ⟨⟨vs, ws, v, w, (hl.tup h).seq, (hl.tup h').seq, ev, ew⟩, fun x H' y => ?_⟩
    obtain ⟨T, p, q, rfl, hT, rfl, y1, y2⟩ := y
    have e3 : p = v := by have := y1 vs (hl.tup h).seq; rw [ev] at this; exact (Option.some.inj this).symm
    have e4 : q = w := by have := y2 ws (hl.tup h').seq; rw [ew] at this; exact (Option.some.inj this).symm
    subst e3 e4
    exact pair_new h2 hT (rv.mono h1) (rw'.mono h1)
end
section
variable (X : Cx) (cl : Cl)
abbrev MI := Rho → Option (List D × Rho)
def tI (g : MI) : TI := fun σ H R => ∃ G L ρ ds ρ', SRep X.K cl σ H G L ρ ∧ g ρ = some (ds, ρ') ∧ ∀ J H' G' L', SRep X.K cl σ H' G' L' ρ' → Frame H G L H' G' L' → ItOk X.K cl J G' ds → R J H'
def SI (tg e : Expr) (g : MI) : Prop := PI X tg e (tI X cl g)
end
section
variable {X : Cx} {cl : Cl} {e a b c o tg : Expr} {es rest : List Expr} {pos : Pos}
theorem PI.weak {t t' : TI} (h : L2.PI X tg e t) (w : ∀ σ H Q, t' σ H Q → t σ H Q) : L2.PI X tg e t' := ⟨fun pins s σ H Q I q => h.run pins s σ H Q I (w σ H _ q)⟩
def iSeq (g : MD) : MI := fun ρ => match g ρ with
  | some (.tup ds, ρ1) => some (ds, ρ1)
  | some (.lst ds, ρ1) => some (ds, ρ1)
  | some (.rol ds, ρ1) => some (ds, ρ1)
  | _ => none
theorem si_seq {g : MD} (h : SD X cl e g) : SI X cl tg e (iSeq g) := by
  have p1 := pi_list (tg := tg) h
  have p2 := pi_tup (tg := tg) h
  refine ⟨fun pins s σ H R I q => ?_⟩
  obtain ⟨G, L, ρ, ds, ρ', hs, hg, q⟩ := q
  unfold iSeq at hg
  split at hg
  · rename_i ds' ρ1 e1
    cases hg
    refine p2.run pins s σ H R I ⟨G, L, ρ, _, _, hs, e1, fun v H' G' L' s r f => ?_⟩
    obtain ⟨p, vs, rfl, hp, rv⟩ := r
    exact ⟨p, rfl, ⟨vs, (s.le.tup hp).seq⟩, q _ H' G' L' s f (itOk_tup hp rv)⟩
  · rename_i ds' ρ1 e1
    cases hg
    refine p1.run pins s σ H R I ⟨G, L, ρ, _, _, hs, e1, fun v H' G' L' s r f => ?_⟩
    obtain ⟨p, vs, rfl, hp, rv⟩ := r
    exact ⟨p, rfl, ⟨vs, SqL.of (s.le _ _ hp)⟩, q _ H' G' L' s f (itOk_lst (SqL.of hp) rv)⟩
  · rename_i ds' ρ1 e1
    cases hg
    refine p1.run pins s σ H R I ⟨G, L, ρ, _, _, hs, e1, fun v H' G' L' s r f => ?_⟩
    obtain ⟨p, vs, rfl, hp, rv⟩ := r
    exact ⟨p, rfl, ⟨vs, s.le.seq hp⟩, q _ H' G' L' s f (itOk_lst hp rv)⟩
  · cases hg
def inRange (i : Int) : Bool := decide (-(2 ^ 62) ≤ i ∧ i < 2 ^ 62)
def iRange1 (g : MD) : MI := fun ρ => match g ρ with
  | some (.int j, ρ1) => (match inRange j with
    | true => some (rangeD 0 j.toNat, ρ1)
    | false => none)
  | _ => none
theorem si_range1 {p : Pos} {g : MD} (hm : X.mg "range" = none) (ha : SD X cl a g) (hg : Gl X "range" := by rfl) (hs : starEach [a] X.env = [(false, eval a X.env)] := by rfl) : SI X cl tg (.Call (.Name "range" p) [a] [] pos) (iRange1 g) :=
  PI.weak (pi_range1 hg hm (sds_cons ha sds_nil hs) hs) fun σ H R ⟨G, L, ρ, ds, ρ', hs, hg, q⟩ => by
    unfold iRange1 at hg
    split at hg
    · rename_i j ρ1 e1
      split at hg
      · rename_i z
        cases hg
        refine ⟨G, L, ρ, [.int j], ρ', hs, by simp [dsCons, dsNil, e1], fun vs H' G' L' s r f => ?_⟩
        obtain ⟨v, rfl, rfl⟩ := one_val r
        obtain ⟨z1, z2⟩ := of_decide_eq_true z
        exact ⟨j, rfl, z1, z2, q _ H' G' L' s f itOk_rng⟩
      · cases hg
    · cases hg
def iRange2 (g h : MD) : MI := fun ρ => match g ρ with
  | some (.int i, ρ1) => (match h ρ1 with
    | some (.int j, ρ2) => (match inRange i && inRange j with
      | true => some (rangeD i (j - i).toNat, ρ2)
      | false => none)
    | _ => none)
  | _ => none
theorem si_range2 {p : Pos} {g h : MD} (hm : X.mg "range" = none) (ha : SD X cl a g) (hb : SD X cl b h) (hg : Gl X "range" := by rfl) (hs : starEach [a, b] X.env = [(false, eval a X.env), (false, eval b X.env)] := by rfl) (hs2 : starEach [b] X.env = [(false, eval b X.env)] := by rfl) :
    SI X cl tg (.Call (.Name "range" p) [a, b] [] pos) (iRange2 g h) :=
  PI.weak (pi_range2 hg hm (sds_cons ha (sds_cons hb sds_nil hs2) (by rw [hs, hs2])) hs hs2) fun σ H R ⟨G, L, ρ, ds, ρ', hs, hg, q⟩ => by
    unfold iRange2 at hg
    split at hg
    · rename_i i ρ1 e1
      split at hg
      · rename_i j ρ2 e2
        split at hg
        · rename_i z
          cases hg
          refine ⟨G, L, ρ, [.int i, .int j], ρ', hs, by simp [dsCons, dsNil, e1, e2], fun vs H' G' L' s r f => ?_⟩
          obtain ⟨v, ws, rfl, rfl, r⟩ := r
          obtain ⟨w, rfl, rfl⟩ := one_val r
          obtain ⟨z1, z2⟩ := Bool.and_eq_true_iff.mp z
          obtain ⟨z3, z4⟩ := of_decide_eq_true z1
          obtain ⟨z5, z6⟩ := of_decide_eq_true z2
          exact ⟨i, j, rfl, ⟨z3, z4, z5, z6⟩, q _ H' G' L' s f itOk_rng⟩
        · cases hg
      · cases hg
    · cases hg
def zipDD : D → D → Option (List D)
  | .tup xs, .tup ys => some (zipD xs ys)
  | .lst xs, .lst ys => some (zipD xs ys)
  | _, _ => none
def iZip (g h : MD) : MI := fun ρ => match g ρ with
  | some (x, ρ1) => (match h ρ1 with
    | some (y, ρ2) => (match zipDD x y with
      | some ds => some (ds, ρ2)
      | none => none)
    | none => none)
  | none => none
theorem si_zip {p tpos : Pos} {elts : List Expr} {kk : Nat} {g h : MD} (hm : X.mg "zip" = none) (ha : SD X cl a g) (hb : SD X cl b h) (hc : X.calm = true := by rfl) (hg : Gl X "zip" := by rfl) (hs : starEach [a, b] X.env = [(false, eval a X.env), (false, eval b X.env)] := by rfl) (hs2 : starEach [b] X.env = [(false, eval b X.env)] := by rfl) :
    SI X cl (.Tuple elts kk tpos) (.Call (.Name "zip" p) [a, b] [] pos) (iZip g h) :=
  PI.weak (RZ.pi_zipA hg hm (sds_cons ha (sds_cons hb sds_nil hs2) (by rw [hs, hs2])) (hs := by rw [hs, hs2]) (hpl := by rw [hs2]; rfl)) fun σ H R ⟨G, L, ρ, ds, ρ', hs, hg, q⟩ => by
    unfold iZip at hg
    split at hg
    · rename_i x ρ1 e1
      split at hg
      · rename_i y ρ2 e2
        split at hg
        · rename_i zs e3
          cases hg
          refine ⟨G, L, ρ, [x, y], ρ', hs, by simp [dsCons, dsNil, e1, e2], fun vs H' G' L' s r f => ?_⟩
          obtain ⟨v, ws, rfl, r1, r⟩ := r
          obtain ⟨w, rfl, r2⟩ := one_val r
          unfold zipDD at e3
          split at e3
          · cases e3
            obtain ⟨p1, vs1, rfl, hp1, rv1⟩ := r1
            obtain ⟨p2, vs2, rfl, hp2, rv2⟩ := r2
            exact ⟨p1, p2, vs1, vs2, rfl, .inr ⟨(s.le.tup hp1).seq, (s.le.tup hp2).seq, q _ H' G' L' s f (itOk_zipT hp1 rv1 hp2 rv2)⟩⟩
          · cases e3
            obtain ⟨p1, vs1, rfl, hp1, rv1⟩ := r1
            obtain ⟨p2, vs2, rfl, hp2, rv2⟩ := r2
            exact ⟨p1, p2, vs1, vs2, rfl, .inl ⟨SqL.of (s.le _ _ hp1), SqL.of (s.le _ _ hp2), q _ H' G' L' s f (itOk_zipL (SqL.of hp1) rv1 (SqL.of hp2) rv2)⟩⟩
          · cases e3
        · cases hg
      · cases hg
    · cases hg
end

/-! ### comprehensions -/
section
variable {K : PySem.W.Frag} {cl : Cl} {G G' H H' : Hp} {L L' : Lab} {σ σ' τ : St} {ρ ρ' ω : Rho}
def wipeR (ρ : Rho) : List Nat → Rho
  | [] => ρ
  | v :: vs => (wipeR ρ vs).set v none
def restR (ρ0 : Rho) : List Nat → Rho → Rho
  | [], ρ => ρ
  | v :: vs, ρ => (restR ρ0 vs ρ).set v (match ρ0[v]? with
    | some x => x
    | none => none)
theorem wipe_get : ∀ (vs : List Nat) (σ : St) (i : Nat), (wipe σ vs)[i]? = if i ∈ vs then (σ[i]?).map fun _ => none else σ[i]?
  | [], σ, i => by simp [wipe]
  | v :: vs, σ, i => by
    unfold wipe
    by_cases e : i = v
    · subst e
      rw [if_pos List.mem_cons_self]
      by_cases hl : i < σ.length
      · rw [List.getElem?_set_self (by rw [wipe_length]; exact hl), List.getElem?_eq_getElem hl]
        rfl
      · rw [List.getElem?_eq_none (by rw [List.length_set, wipe_length]; omega), List.getElem?_eq_none (by omega)]
        rfl
    · rw [List.getElem?_set_ne (Ne.symm e), wipe_get vs σ i]
      by_cases h : i ∈ vs
      · rw [if_pos h, if_pos (List.mem_cons_of_mem _ h)]
      · rw [if_neg h, if_neg (by simp [e, h])]
theorem wipeR_length (ρ : Rho) : ∀ vs : List Nat, (wipeR ρ vs).length = ρ.length
  | [] => rfl
  | v :: vs => by unfold wipeR; rw [List.length_set, wipeR_length ρ vs]
theorem wipeR_get : ∀ (vs : List Nat) (σ : Rho) (i : Nat), (wipeR σ vs)[i]? = if i ∈ vs then (σ[i]?).map fun _ => none else σ[i]?
  | [], σ, i => by simp [wipeR]
  | v :: vs, σ, i => by
    unfold wipeR
    by_cases e : i = v
    · subst e
      rw [if_pos List.mem_cons_self]
      by_cases hl : i < σ.length
      · rw [List.getElem?_set_self (by rw [wipeR_length]; exact hl), List.getElem?_eq_getElem hl]
        rfl
      · rw [List.getElem?_eq_none (by rw [List.length_set, wipeR_length]; omega), List.getElem?_eq_none (by omega)]
        rfl
    · rw [List.getElem?_set_ne (Ne.symm e), wipeR_get vs σ i]
      by_cases h : i ∈ vs
      · rw [if_pos h, if_pos (List.mem_cons_of_mem _ h)]
      · rw [if_neg h, if_neg (by simp [e, h])]
theorem restR_length (ρ0 : Rho) : ∀ (vs : List Nat) (ρ : Rho), (restR ρ0 vs ρ).length = ρ.length
  | [], _ => rfl
  | v :: vs, ρ => by unfold restR; rw [List.length_set, restR_length ρ0 vs]
theorem restR_get {ρ0 : Rho} : ∀ (vs : List Nat) (ρ : Rho) (i : Nat), ρ.length = ρ0.length → (restR ρ0 vs ρ)[i]? = if i ∈ vs then ρ0[i]? else ρ[i]?
  | [], ρ, i, _ => by simp [restR]
  | v :: vs, ρ, i, hl => by
    unfold restR
    by_cases e : i = v
    · subst e
      rw [if_pos List.mem_cons_self]
      by_cases h : i < ρ.length
      · rw [List.getElem?_set_self (by rw [restR_length]; exact h), List.getElem?_eq_getElem (show i < ρ0.length by omega)]
      · rw [List.getElem?_eq_none (by rw [List.length_set, restR_length]; omega), List.getElem?_eq_none (by omega)]
    · rw [List.getElem?_set_ne (Ne.symm e), restR_get vs ρ i hl]
      by_cases h : i ∈ vs
      · rw [if_pos h, if_pos (List.mem_cons_of_mem _ h)]
      · rw [if_neg h, if_neg (by simp [e, h])]
theorem SRep.wipe (h : SRep K cl σ H G L ρ) (vs : List Nat) : ∃ L', SRep K cl (L2.wipe σ vs) H G L' (wipeR ρ vs) ∧ Frame H G L H G L' := by
  refine h.drop (fun i => decide (i ∈ vs)) (by rw [wipe_length, wipeR_length]; exact h.len) (fun i hi o e => ?_) fun i hi => ?_
  · rw [wipeR_get, if_pos (of_decide_eq_true hi)] at e
    cases q : ρ[i]? with
    | none => rw [q] at e; cases e
    | some x => rw [q] at e; cases e
  · have hi := of_decide_eq_false hi
    rw [wipe_get, if_neg hi, wipeR_get, if_neg hi]
    exact ⟨rfl, rfl⟩
/-- frozen slots come back -/
theorem SRep.unwipe {G0 : Hp} {L0 : Lab} {H0 : Hp} {ρ0 : Rho} {vs : List Nat} (h0 : SRep K cl σ H0 G0 L0 ρ0) (hfz : ∀ i ∈ vs, ∀ o, ρ0[i]? = some (some o) → ∃ d, o = .fz d) (h : SRep K cl (L2.wipe σ vs) H G L ρ) (hle : Le G0 G) :
    SRep K cl σ H G L (restR ρ0 vs ρ) := by
  have hl : σ.length = ρ.length := by have := h.len; rw [wipe_length] at this; exact this
  have hl0 : ρ.length = ρ0.length := by have := h0.len; omega
  refine ⟨by rw [restR_length]; exact hl, fun i o e => ?_, ⟨h.rep.ge, h.rep.sep, h.rep.imm, fun i v o e => ?_, fun b p e => ?_⟩⟩
  · rw [restR_get vs ρ i hl0] at e
    split at e
    · exact h0.all i o e
    · rename_i z
      obtain ⟨v, ev⟩ := h.all i o e
      rw [wipe_get, if_neg z] at ev
      exact ⟨v, ev⟩
  · obtain ⟨e1, e2⟩ := rootsOf_some.mp e
    rw [restR_get vs ρ i hl0] at e2
    split at e2
    · rename_i z
      obtain ⟨d, rfl⟩ := hfz i z o e2
      have r := h0.rep.rep i v _ (rootsOf_some.mpr ⟨e1, e2⟩)
      exact RepV.mono hle d v r
    · rename_i z
      exact h.rep.rep i v o (rootsOf_some.mpr ⟨by rw [wipe_get, if_neg z]; exact e1, e2⟩)
  · obtain ⟨i, r, e1, e2⟩ := h.rep.own b p e
    refine ⟨i, r, e1, ?_⟩
    obtain ⟨⟨v, o⟩, e3⟩ := Option.isSome_iff_exists.mp e2
    obtain ⟨e4, e5⟩ := rootsOf_some.mp e3
    rw [wipe_get] at e4
    split at e4
    · cases q : σ[i]? with
      | none => rw [q] at e4; cases e4
      | some x => rw [q] at e4; cases e4
    · rename_i z
      rw [rootsOf_some.mpr ⟨e4, by rw [restR_get vs ρ i hl0, if_neg z]; exact e5⟩]
      rfl
/-- another object, not owned and not frozen, has changed -/
theorem SRep.other (h : SRep K cl σ H G L ρ) {p : Addr} {o : HO} (lp : L p = none) (gp : G p = none) (ht : ∀ xs, o ≠ .tup xs) : SRep K cl σ (upd H p o) G L ρ := by
  refine ⟨h.len, h.all, ⟨fun b x hb => ?_, fun b q l => ?_, fun b xs e => ?_, fun i v t e => ?_, h.rep.own⟩⟩
  · have : b ≠ p := fun z => by rw [z, gp] at hb; cases hb
    rw [upd_ne this]
    exact h.le b x hb
  · have : b ≠ p := fun z => by rw [z, lp] at l; cases l
    obtain ⟨g, x, hx⟩ := h.rep.sep b q l
    exact ⟨g, x, by rw [upd_ne this]; exact hx⟩
  · by_cases z : b = p
    · subst z
      rw [upd_same] at e
      exact absurd (Option.some.inj e) (ht xs)
    · rw [upd_ne z] at e
      exact h.rep.imm b xs e
  · have := RepO.move (L := L) (H := H) (L' := L) (H' := upd H p o) (G' := G) (p := [i]) (p' := [i]) Le.refl (fun a q l => ⟨l, fun x hx => by
      have : a ≠ p := fun z => by rw [z, lp] at l; cases l
      rw [upd_ne this]; exact hx⟩) t v [] (by simpa using h.rep.rep i v t e)
    simpa using this
/-- an object that is not owned and not frozen becomes a root -/
theorem SRep.adopt (h : SRep K cl σ H G L ρ) {p : Addr} {vs : List V} {ds : List D} (hp : H p = some (.lst vs)) (lp : L p = none) (gp : G p = none) (r : RepVs K cl G vs ds) :
    SRep K cl (σ ++ [some (.ref p)]) H G (updL L p [ρ.length]) (ρ ++ [some (.lst (ds.map .fz))]) := by
  refine ⟨by simp [h.len], fun i o e => ?_, ⟨h.rep.ge, fun b q l => ?_, h.rep.imm, fun i v o e => ?_, fun b q l => ?_⟩⟩
  · rw [get_app] at e ⊢
    rw [h.len]
    split at e
    · rename_i z
      rw [if_pos z]
      exact h.all i o e
    · rename_i z
      rw [if_neg z]
      split at e
      · rename_i z2
        rw [if_pos z2]
        exact ⟨_, rfl⟩
      · cases e
  · unfold updL at l
    split at l
    · rename_i z
      subst z
      exact ⟨gp, _, hp⟩
    · exact h.rep.sep b q l
  · rw [rootsOf_app h.len] at e
    split at e
    · have := RepO.move (L := L) (H := H) (L' := updL L p [ρ.length]) (H' := H) (G' := G) (p := [i]) (p' := [i]) Le.refl (fun a q l => ⟨by
        have : a ≠ p := fun z => by rw [z, lp] at l; cases l
        unfold updL
        rw [if_neg this]
        exact l, fun _ x => x⟩) o v [] (by simpa using h.rep.rep i v o e)
      simpa using this
    · rename_i z
      have : i = ρ.length := by
        have e2 := (rootsOf_some.mp e).1
        have := (List.getElem?_eq_some_iff.mp e2).1
        have := h.len
        simp at *
        omega
      subst this
      simp [rootsOf] at e
      obtain ⟨e1, e2⟩ := e
      subst e1 e2
      exact ⟨p, vs, rfl, by unfold updL; rw [if_pos rfl], hp, repOs_fz ds vs _ 0 r⟩
  · unfold updL at l
    split at l
    · cases l
      refine ⟨_, _, rfl, ?_⟩
      rw [rootsOf_app h.len, if_neg (by omega)]
      simp [rootsOf]
    · obtain ⟨i, r', e1, e2⟩ := h.rep.own b q l
      refine ⟨i, r', e1, ?_⟩
      obtain ⟨⟨v1, o⟩, e3⟩ := Option.isSome_iff_exists.mp e2
      rw [rootsOf_app h.len, if_pos (List.getElem?_eq_some_iff.mp (rootsOf_some.mp e3).2).1, e3]
      rfl

structure FrameX (p : Addr) (H G : Hp) (L : Lab) (H' G' : Hp) (L' : Lab) : Prop where
  keep : ∀ b x, b ≠ p → H b = some x → L b = none → H' b = some x ∧ L' b = none ∧ (G b = none → G' b = none)
  le : Le G G'
theorem Frame.x (f : Frame H G L H' G' L') (p : Addr) : FrameX p H G L H' G' L' := ⟨fun b x _ => f.keep b x, f.le⟩
theorem FrameX.trans {p : Addr} {H1 G1 H2 G2 : Hp} {L1 L2 : Lab} (a : FrameX p H G L H1 G1 L1) (b : FrameX p H1 G1 L1 H2 G2 L2) : FrameX p H G L H2 G2 L2 :=
  ⟨fun c x n h l => by
    obtain ⟨h1, l1, g1⟩ := a.keep c x n h l
    obtain ⟨h2, l2, g2⟩ := b.keep c x n h1 l1
    exact ⟨h2, l2, fun z => g2 (g1 z)⟩, a.le.trans b.le⟩
end
def compLoop (vs : List Nat) (b : MG) (t : MB) (g : MD) : List D → Rho → Option (List D × Rho)
  | [], ρ => some ([], ρ)
  | d :: ds, ρ => (match b d ρ with
    | some ρ1 => (match t ρ1 with
      | some (true, ρ2) => (match g ρ2 with
        | some (x, ρ3) => (match compLoop vs b t g ds (wipeR ρ3 vs) with
          | some (xs, ρ4) => some (x :: xs, ρ4)
          | none => none)
        | none => none)
      | some (false, ρ2) => compLoop vs b t g ds (wipeR ρ2 vs)
      | none => none)
    | none => none)
def fzAt (ρ : Rho) (vs : List Nat) : Bool := vs.all fun i => match ρ[i]? with
  | some (some (.fz _)) => true
  | some (some _) => false
  | _ => true
def oComp (gi : MI) (vs : List Nat) (b : MG) (t : MB) (g : MD) : MO := fun ρ => match gi ρ with
  | some (ds, ρ1) => (match fzAt ρ1 vs && decide (ds.length ≤ sizeLine) with
    | true => (match compLoop vs b t g ds (wipeR ρ1 vs) with
      | some (xs, ρ2) => some (.lst (xs.map .fz), restR ρ1 vs ρ2)
      | none => none)
    | false => none)
  | none => none
def bYes : MB := fun ρ => some (true, ρ)
section
variable {X : Cx} {cl : Cl} {e a b c o tg : Expr} {es rest : List Expr} {pos : Pos}
def STs (X : Cx) (cl : Cl) (ifs : List Expr) (g : MB) : Prop := PTs X ifs (tB' X cl g)
theorem PTs.weak {ifs : List Expr} {t t' : TT} (h : PTs X ifs t) (w : ∀ σ H Q, t' σ H Q → t σ H Q) : PTs X ifs t' := ⟨fun pins s σ H Q I q => h.run pins s σ H Q I (w σ H Q q)⟩
theorem sts_nil : STs X cl [] bYes := PTs.weak pts_nil fun σ H Q ⟨G, L, ρ, k, ρ', hs, hg, q⟩ => by
  cases hg
  exact q H G L hs Frame.refl
theorem sts_one {g : MB} (h : ST X cl c g) : STs X cl [c] g := pts_one h
theorem wipe_eq {σ σ2 : St} {vs T : List Nat} (hT : ∀ i ∈ T, i ∈ vs) (hk : ∀ i, i ∉ T → σ2[i]? = (wipe σ vs)[i]?) (hl : σ2.length = σ.length) : wipe σ2 vs = wipe σ vs := by
  refine List.ext_getElem? fun i => ?_
  rw [wipe_get, wipe_get]
  by_cases h : i ∈ vs
  · rw [if_pos h, if_pos h]
    by_cases z : i < σ.length
    · rw [List.getElem?_eq_getElem z, List.getElem?_eq_getElem (by omega)]
      rfl
    · rw [List.getElem?_eq_none (by omega), List.getElem?_eq_none (by omega)]
  · rw [if_neg h, if_neg h, hk i fun z => h (hT i z), wipe_get, if_neg h]
theorem compLoop_len {vs : List Nat} {b : MG} {t : MB} {g : MD} : ∀ {ds : List D} {ρ ρ' : Rho} {xs : List D}, compLoop vs b t g ds ρ = some (xs, ρ') → xs.length ≤ ds.length
  | [], _, _, _, h => by simp [compLoop] at h; simp [← h.1]
  | d :: ds, ρ, ρ', xs, h => by
    simp only [compLoop] at h
    split at h
    · split at h
      · split at h
        · split at h
          · rename_i e
            cases h
            have := compLoop_len e
            simp; omega
          · cases h
        · cases h
      · have := compLoop_len h
        simp; omega
      · cases h
    · cases h
theorem comp_reads {gi : MI} {vs T : List Nat} {bd : MG} {t : MB} {g : MD} (hT : ∀ i ∈ T, i ∈ vs) {σ : St} {H : Hp} {Q : VK} (h : tO X cl (oComp gi vs bd t g) σ H Q) :
    tLc (tI X cl gi) (tG X cl T bd) (tB' X cl t) (tD X cl g) vs σ H Q := by
  obtain ⟨G, L, ρ, o, ρ', hs, hg, q⟩ := h
  unfold oComp at hg
  split at hg
  · rename_i ds ρ1 e1
    split at hg
    · rename_i z
      obtain ⟨z1, z2⟩ := Bool.and_eq_true_iff.mp z
      have z2 := of_decide_eq_true z2
      split at hg
      · rename_i xs ρ2 e2
        cases hg
        refine ⟨G, L, ρ, ds, ρ1, hs, e1, fun J H1 G1 L1 s1 f1 it p hp => ?_⟩
        have p0 : G1 p = none := by
          cases y : G1 p with
          | none => rfl
          | some x => have := s1.le p x y; rw [hp] at this; cases this
        obtain ⟨L2, s2, f2⟩ := s1.wipe vs
        have l2 : L2 p = none := by
          cases y : L2 p with
          | none => rfl
          | some x => obtain ⟨_, w, hw⟩ := s2.rep.sep p x y; rw [hp] at hw; cases hw
        refine ⟨fun i m Hc => m = ds.length - i ∧ i ≤ ds.length ∧ ∃ Gc Lc ρc acc accD xr, SRep X.K cl (wipe σ vs) Hc Gc Lc ρc ∧ Hc p = some (.lst acc) ∧ RepVs X.K cl Gc acc accD ∧ Lc p = none ∧ Gc p = none ∧ accD.length ≤ i ∧
          compLoop vs bd t g (ds.drop i) ρc = some (xr, ρ2) ∧ accD ++ xr = xs ∧ FrameX p H1 G1 L1 Hc Gc Lc, ⟨ds.length, by simp, Nat.zero_le _, G1, L2, _, [], [], xs, s2.other l2 p0 (fun xs e => by cases e), upd_same, rfl, l2, p0, Nat.le_refl _, by simpa using e2, rfl, ?_⟩, ?_⟩
        · exact ⟨fun b x n hb hl => ⟨by rw [upd_ne n]; exact hb, (f2.keep b x hb hl).2.1, id⟩, Le.refl⟩
        · rintro i m Hc ⟨rfl, hi, Gc, Lc, ρc, acc, accD, xr, sc, hD, ra, lD, gD, ha, ec, ex, fx⟩
          by_cases hlt : i < ds.length
          · refine .inr ?_
            have ed : ds[i]? = some ds[i] := List.getElem?_eq_getElem hlt
            have edrop : ds.drop i = ds[i] :: ds.drop (i + 1) := (List.getElem_cons_drop hlt).symm
            rw [edrop] at ec
            obtain ⟨hgo, hy⟩ := it.go i Hc Gc ds[i] fx.le sc.le sc.rep.imm ed
            refine ⟨hgo, fun Hn => i + 1 ≤ ds.length ∧ ∃ Gc Lc ρc acc accD xr, SRep X.K cl (wipe σ vs) Hn Gc Lc ρc ∧ Hn p = some (.lst acc) ∧ RepVs X.K cl Gc acc accD ∧ Lc p = none ∧ Gc p = none ∧ accD.length ≤ i + 1 ∧
              compLoop vs bd t g (ds.drop (i + 1)) ρc = some (xr, ρ2) ∧ accD ++ xr = xs ∧ FrameX p H1 G1 L1 Hn Gc Lc, fun Hn hn => ⟨ds.length - (i + 1), by omega, rfl, hn⟩, fun x Hy yy => ?_⟩
            obtain ⟨G3, ext, rx⟩ := hy x Hy yy
            obtain ⟨s3, f3⟩ := sc.ext ext
            have d3 := f3.keep p _ hD lD
            simp only [compLoop] at ec
            split at ec
            · rename_i ρ3 e3
              refine ⟨G3, Lc, ρc, ds[i], ρ3, s3, rx, e3, fun σ4 H4 G4 L4 s4 f4 k4 n4 => ?_⟩
              have d4 := f4.keep p _ d3.1 d3.2.1
              have len4 : σ4.length = σ.length := by rw [n4, wipe_length]
              have we := wipe_eq hT k4 len4
              refine ⟨we, ?_⟩
              split at ec
              · rename_i ρ5 e5
                split at ec
                · rename_i d6 ρ6 e6
                  split at ec
                  · rename_i xs7 ρ7 e7
                    cases ec
                    refine ⟨G4, L4, ρ3, true, ρ5, s4, e5, fun H5 G5 L5 s5 f5 => iteT ⟨G5, L5, ρ5, d6, ρ6, s5, e6, fun y H6 G6 L6 s6 r6 f6 => ?_⟩⟩
                    have d5 := f5.keep p _ d4.1 d4.2.1
                    have d6' := f6.keep p _ d5.1 d5.2.1
                    have g6 : G6 p = none := d6'.2.2 (d5.2.2 (d4.2.2 (d3.2.2 gD)))
                    obtain ⟨L7, s7, f7⟩ := s6.wipe vs
                    have d7 := f7.keep p _ d6'.1 d6'.2.1
                    rw [we] at s7
                    have rA : RepVs X.K cl G6 acc accD := (((ra.mono f3.le).mono f4.le).mono f5.le).mono f6.le
                    refine ⟨acc, d6'.1, by rw [ra.length]; omega, hlt, G6, L7, _, acc ++ [y], accD ++ [d6], xs7, s7.other d7.2.1 g6 (fun xs e => by cases e), upd_same, rA.append ⟨y, [], rfl, r6, rfl⟩, d7.2.1, g6, by simp; omega, e7, by rw [← ex]; simp, ?_⟩
                    refine fx.trans ((((f3.trans f4).trans f5).trans f6).trans f7 |>.x p |>.trans ⟨fun b x n hb hl => ⟨by rw [upd_ne n]; exact hb, hl, id⟩, Le.refl⟩)
                  · cases ec
                · cases ec
              · rename_i ρ5 e5
                refine ⟨G4, L4, ρ3, false, ρ5, s4, e5, fun H5 G5 L5 s5 f5 => iteF ?_⟩
                have d5 := f5.keep p _ d4.1 d4.2.1
                obtain ⟨L7, s7, f7⟩ := s5.wipe vs
                have d7 := f7.keep p _ d5.1 d5.2.1
                rw [we] at s7
                exact ⟨hlt, G5, L7, _, acc, accD, xr, s7, d5.1, ((ra.mono f3.le).mono f4.le).mono f5.le, d7.2.1, d5.2.2 (d4.2.2 (d3.2.2 gD)), by omega, ec, ex, fx.trans ((((f3.trans f4).trans f5).trans f7).x p)⟩
              · cases ec
            · cases ec
          · have hi2 : i = ds.length := by omega
            subst hi2
            refine .inl ⟨it.stop _ Hc (fx.le.trans sc.le) (Nat.le_refl _), ?_⟩
            simp only [List.drop_length, compLoop] at ec
            cases ec
            rw [List.append_nil] at ex
            subst ex
            have hfz : ∀ i ∈ vs, ∀ o, ρ1[i]? = some (some o) → ∃ d, o = .fz d := fun i hi o e => by
              have := List.all_eq_true.mp z1 i hi
              rw [e] at this
              cases o <;> first | exact ⟨_, rfl⟩ | cases this
            have su := s1.unwipe hfz sc fx.le
            have sa := su.adopt hD lD gD ra
            refine q _ Hc Gc _ sa (f1.trans ⟨fun b x hb hl => ?_, fx.le⟩)
            have n : b ≠ p := fun z => by rw [z, hp] at hb; cases hb
            obtain ⟨a1, a2, a3⟩ := fx.keep b x n hb hl
            refine ⟨a1, ?_, a3⟩
            unfold updL
            rw [if_neg n]
            exact a2
      · cases hg
    · cases hg
  · cases hg
theorem so_comp {elt iter : Expr} {ifs : List Expr} {scope : Scope} {own : List (Str × Nat)} {gi : MI} {T : List Nat} {bd : MG} {t : MB} {g : MD} (hi : SI X cl tg iter gi) (ok : BlkOk X.N X.env.scope scope own)
    (hb : ∀ (s : Shared) (H : Hp) (C : Addr) (cs : List (Str × Addr)) (fp : List Addr), SG (X.blk s H scope (compEnvC scope cs C X.env) fp) cl tg T bd)
    (ht : ∀ (s : Shared) (H : Hp) (C : Addr) (cs : List (Str × Addr)) (fp : List Addr), STs (X.blk s H scope (compEnvC scope cs C X.env) fp) cl ifs t)
    (he : ∀ (s : Shared) (H : Hp) (C : Addr) (cs : List (Str × Addr)) (fp : List Addr), SD (X.blk s H scope (compEnvC scope cs C X.env) fp) cl elt g)
    (hN : X.N.Nodup) (hT : ∀ i ∈ T, i ∈ own.map (·.2) := by decide) (hc : X.calm = true := by rfl) (hs : ∀ x, foldedSetIterable iter X.env x = pure x := by intro _; rfl) :
    SO X cl (.ListComp elt [⟨tg, iter, ifs, 0⟩] scope pos) (oComp gi (own.map (·.2)) bd t g) :=
  PE.weak (pe_lc (wi := tI X cl gi) (g := tG X cl T bd) (tt := tB' X cl t) (te := tD X cl g) hc hN hi ok hb ht he hs) fun σ H Q h => comp_reads hT h
end
end PI
set_option Elab.async false
set_option linter.all false
set_option maxRecDepth 100000
set_option maxHeartbeats 1000000
set_option autoImplicit false
/-! PI10: statements. -/
namespace PI
open PySem PySem.Spec L2

/-! ### owned trees changed in place -/
section
variable {K : PySem.W.Frag} {cl : Cl} {G G' H H' : Hp} {L L' : Lab} {σ σ' τ : St} {ρ ρ' ω : Rho}
/-- a node's children, where the node itself changes -/
theorem RepOs.kids (hG : Le G G') {p : Path} (hm : ∀ a j r, L a = some (p ++ j :: r) → L' a = some (p ++ j :: r) ∧ ∀ x, H a = some x → H' a = some x) :
    ∀ (os : List O) (vs : List V) (i : Nat), RepOs K cl G H L p i vs os → RepOs K cl G' H' L' p i vs os
  | [], _, _, r => r
  | o :: os, _, i, ⟨v, ws, e, r, rs⟩ => ⟨v, ws, e, by
      have := RepO.move (L := L) (H := H) (L' := L') (H' := H') (p := p ++ [i]) (p' := p ++ [i]) hG (fun a q l => by
        have l2 : L a = some (p ++ i :: q) := by rw [l]; simp
        have := hm a i q l2
        simpa using this) o v [] (by simpa using r)
      simpa using this, RepOs.kids hG hm os ws (i + 1) rs⟩
/-- .. one child replaced -/
theorem RepOs.kid (hG : Le G G') {p : Path} {j0 : Nat} {v0 : V} {o0 : O} (hm : ∀ a j r, j ≠ j0 → L a = some (p ++ j :: r) → L' a = some (p ++ j :: r) ∧ ∀ x, H a = some x → H' a = some x) (h0 : RepO K cl G' H' L' (p ++ [j0]) v0 o0) :
    ∀ (os : List O) (vs : List V) (i k : Nat), i + k = j0 → RepOs K cl G H L p i vs os → RepOs K cl G' H' L' p i (vs.set k v0) (os.set k o0)
  | [], _, _, _, _, r => by cases r; rfl
  | o :: os, _, i, 0, e0, ⟨v, ws, e, r, rs⟩ => by
    subst e
    refine ⟨v0, ws, rfl, by rw [show i = j0 by omega]; exact h0, ?_⟩
    -- the rest: all later than j0
    have : ∀ (os : List O) (vs : List V) (i : Nat), j0 < i → RepOs K cl G H L p i vs os → RepOs K cl G' H' L' p i vs os := by
      intro os
      induction os with
      | nil => intro vs i _ r; exact r
      | cons o os ih =>
        intro vs i hi ⟨v, ws, e, r, rs⟩
        refine ⟨v, ws, e, ?_, ih ws (i + 1) (by omega) rs⟩
        have := RepO.move (L := L) (H := H) (L' := L') (H' := H') (p := p ++ [i]) (p' := p ++ [i]) hG (fun a q l => by
          have l2 : L a = some (p ++ i :: q) := by rw [l]; simp
          have := hm a i q (by omega) l2
          simpa using this) o v [] (by simpa using r)
        simpa using this
    exact this os ws (i + 1) (by omega) rs
  | o :: os, _, i, k + 1, e0, ⟨v, ws, e, r, rs⟩ => by
    subst e
    refine ⟨v, _, rfl, ?_, RepOs.kid hG hm h0 os ws (i + 1) k (by omega) rs⟩
    have := RepO.move (L := L) (H := H) (L' := L') (H' := H') (p := p ++ [i]) (p' := p ++ [i]) hG (fun a q l => by
      have l2 : L a = some (p ++ i :: q) := by rw [l]; simp
      have := hm a i q (by omega) l2
      simpa using this) o v [] (by simpa using r)
    simpa using this
theorem RepOs.length : ∀ {os : List O} {vs : List V} {p : Path} {i : Nat}, RepOs K cl G H L p i vs os → vs.length = os.length
  | [], _, _, _, r => by cases r; rfl
  | o :: os, _, _, _, ⟨v, ws, e, _, r⟩ => by rw [e]; simp [RepOs.length r]
theorem RepOs.snoc {p : Path} {v : V} {o : O} : ∀ (os : List O) (vs : List V) (i : Nat), RepOs K cl G H L p i vs os → RepO K cl G H L (p ++ [i + os.length]) v o → RepOs K cl G H L p i (vs ++ [v]) (os ++ [o])
  | [], vs, i, r, h => by
    cases r
    exact ⟨v, [], rfl, by simpa using h, rfl⟩
  | x :: os, _, i, ⟨w, ws, e, r, rs⟩, h => by
    subst e
    refine ⟨w, _, rfl, r, RepOs.snoc os ws (i + 1) rs ?_⟩
    have : i + 1 + os.length = i + (x :: os).length := by simp; omega
    rw [this]
    exact h

/-- labels where the temporary root n goes under the slot i at the place j (what stood there is dropped) -/
def graftL (L : Lab) (n i j : Nat) : Lab := fun b => match L b with
  | some (m :: r) => if m = n then some (i :: j :: r) else if m = i then (match r with
    | j' :: _ => if j' = j then none else some (m :: r)
    | [] => some (m :: r)) else some (m :: r)
  | _ => none
theorem graft_tmp {n i j : Nat} {b : Addr} {r : Path} (l : L b = some (n :: r)) : graftL L n i j b = some (i :: j :: r) := by
  unfold graftL
  rw [l]
  show (if n = n then _ else _) = _
  rw [if_pos rfl]
theorem graft_other {n i j m : Nat} {b : Addr} {r : Path} (l : L b = some (m :: r)) (h1 : m ≠ n) (h2 : m ≠ i) : graftL L n i j b = some (m :: r) := by
  unfold graftL
  rw [l]
  show (if m = n then _ else if m = i then _ else _) = _
  rw [if_neg h1, if_neg h2]
theorem graft_root {n i j : Nat} {b : Addr} (l : L b = some [i]) (h1 : i ≠ n) : graftL L n i j b = some [i] := by
  unfold graftL
  rw [l]
  show (if i = n then _ else if i = i then _ else _) = _
  rw [if_neg h1, if_pos rfl]
theorem graft_kid {n i j j' : Nat} {b : Addr} {r : Path} (l : L b = some (i :: j' :: r)) (h1 : i ≠ n) (h2 : j' ≠ j) : graftL L n i j b = some (i :: j' :: r) := by
  unfold graftL
  rw [l]
  show (if i = n then _ else if i = i then (if j' = j then _ else _) else _) = _
  rw [if_neg h1, if_pos rfl, if_neg h2]
theorem graft_some {n i j : Nat} {b : Addr} {p : Path} (e : graftL L n i j b = some p) : ∃ m r, L b = some (m :: r) ∧ ((m = n ∧ p = i :: j :: r) ∨ (m ≠ n ∧ p = m :: r)) := by
  unfold graftL at e
  split at e
  · rename_i m r l
    split at e
    · rename_i z
      cases e
      exact ⟨m, r, l, .inl ⟨z, rfl⟩⟩
    · rename_i z
      split at e
      · split at e
        · split at e
          · cases e
          · cases e; exact ⟨_, _, l, .inr ⟨z, rfl⟩⟩
        · cases e; exact ⟨_, _, l, .inr ⟨z, rfl⟩⟩
      · cases e; exact ⟨_, _, l, .inr ⟨z, rfl⟩⟩
  · cases e
/-- the temporary root goes under a slot's node, whose object changes -/
theorem SRep.graft {v : V} {o : O} (h : SRep K cl (σ ++ [some v]) H G L (ρ ++ [some o])) {i j : Nat} {a : Addr} {ho : HO} (nt : ∀ xs, ho ≠ .tup xs) {t : O} (hi : i < ρ.length) (la : L a = some [i]) (hsi : σ[i]? = some (some (.ref a)))
    (hold : ∃ t0, ρ[i]? = some (some t0))
    (r : RepO K cl G (upd H a ho) (graftL L ρ.length i j) [i] (.ref a) t) : SRep K cl σ (upd H a ho) G (graftL L ρ.length i j) (ρ.set i (some t)) ∧ Frame H G L (upd H a ho) G (graftL L ρ.length i j) := by
  have hl : σ.length = ρ.length := by simpa using h.len
  have ga : G a = none := (h.rep.sep a _ la).1
  have hset : ∀ (m : Nat) (o' : O), (ρ.set i (some t))[m]? = some (some o') → (m = i ∧ o' = t) ∨ (m ≠ i ∧ ρ[m]? = some (some o')) := fun m o' e => by
    by_cases z : m = i
    · subst z
      rw [List.getElem?_set_self hi] at e
      cases e
      exact .inl ⟨rfl, rfl⟩
    · rw [List.getElem?_set_ne (Ne.symm z)] at e
      exact .inr ⟨z, e⟩
  refine ⟨⟨by simp [hl], fun m o' e => ?_, ⟨fun b x hb => ?_, fun b p l => ?_, fun b xs e => ?_, fun m v' o' e => ?_, fun b p l => ?_⟩⟩, ⟨fun b x e l => ?_, Le.refl⟩⟩
  · rcases hset m o' e with ⟨rfl, _⟩ | ⟨_, e⟩
    · exact ⟨_, hsi⟩
    · have hm := (List.getElem?_eq_some_iff.mp e).1
      obtain ⟨w, ew⟩ := h.all m o' (by rw [List.getElem?_append_left hm]; exact e)
      exact ⟨w, by rw [List.getElem?_append_left (by omega)] at ew; exact ew⟩
  · have : b ≠ a := fun z => by rw [z, ga] at hb; cases hb
    rw [upd_ne this]
    exact h.rep.ge b x hb
  · obtain ⟨m, r', l0, _⟩ := graft_some l
    obtain ⟨g, x, hx⟩ := h.rep.sep b _ l0
    refine ⟨g, ?_⟩
    by_cases z : b = a
    · subst z; exact ⟨_, upd_same⟩
    · exact ⟨x, by rw [upd_ne z]; exact hx⟩
  · by_cases z : b = a
    · subst z
      rw [upd_same] at e
      exact absurd (Option.some.inj e) (nt xs)
    · rw [upd_ne z] at e
      exact h.rep.imm b xs e
  · obtain ⟨e1, e2⟩ := rootsOf_some.mp e
    rcases hset m o' e2 with ⟨rfl, rfl⟩ | ⟨n1, e3⟩
    · rw [hsi] at e1
      cases e1
      exact r
    · have hm := (List.getElem?_eq_some_iff.mp e3).1
      have r0 := h.rep.rep m v' o' (rootsOf_some.mpr ⟨by rw [List.getElem?_append_left (by omega)]; exact e1, by rw [List.getElem?_append_left hm]; exact e3⟩)
      have := RepO.move (L := L) (H := H) (L' := graftL L ρ.length i j) (H' := upd H a ho) (G' := G) (p := [m]) (p' := [m]) Le.refl (fun b q l => ⟨graft_other l (by omega) n1, fun x hx => by
        have : b ≠ a := fun z => by rw [z, la] at l; cases l; exact n1 rfl
        rw [upd_ne this]; exact hx⟩) o' v' [] (by simpa using r0)
      simpa using this
  · obtain ⟨m, r', l0, z⟩ := graft_some l
    rcases z with ⟨rfl, rfl⟩ | ⟨z, rfl⟩
    · refine ⟨i, j :: r', rfl, ?_⟩
      rw [rootsOf_some.mpr ⟨hsi, List.getElem?_set_self hi⟩]
      rfl
    · refine ⟨m, r', rfl, ?_⟩
      obtain ⟨m', r2, e3, e4⟩ := h.rep.own b _ l0
      cases e3
      obtain ⟨⟨w, o'⟩, e5⟩ := Option.isSome_iff_exists.mp e4
      obtain ⟨e6, e7⟩ := rootsOf_some.mp e5
      have hm : m < ρ.length := by
        have := (List.getElem?_eq_some_iff.mp e7).1
        simp at this
        omega
      rw [List.getElem?_append_left (by omega)] at e6
      rw [List.getElem?_append_left hm] at e7
      by_cases q : m = i
      · subst q
        rw [rootsOf_some.mpr ⟨hsi, List.getElem?_set_self hi⟩]
        rfl
      · rw [rootsOf_some.mpr ⟨e6, by rw [List.getElem?_set_ne (Ne.symm q)]; exact e7⟩]
        rfl
  · have : b ≠ a := fun z => by rw [z, la] at l; cases l
    refine ⟨by rw [upd_ne this]; exact e, ?_, id⟩
    unfold graftL
    rw [l]
/-- a slot that owns a list -/
theorem SRep.lst_at (h : SRep K cl σ H G L ρ) {i : Nat} {os : List O} (e : ρ[i]? = some (some (.lst os))) : ∃ a vs, σ[i]? = some (some (.ref a)) ∧ L a = some [i] ∧ H a = some (.lst vs) ∧ RepOs K cl G H L [i] 0 vs os := by
  obtain ⟨v, ev⟩ := h.all i _ e
  obtain ⟨a, vs, rfl, l, ha, r⟩ := h.rep.rep i v _ (rootsOf_some.mpr ⟨ev, e⟩)
  exact ⟨a, vs, ev, l, ha, r⟩
theorem SRep.dct_at (h : SRep K cl σ H G L ρ) {i : Nat} {ks : List Key} {os : List O} (e : ρ[i]? = some (some (.dct ks os))) : ∃ a kvs, σ[i]? = some (some (.ref a)) ∧ L a = some [i] ∧ H a = some (.dK kvs) ∧ kvs.map (·.1) = ks ∧ RepOs K cl G H L [i] 0 (kvs.map (·.2)) os := by
  obtain ⟨v, ev⟩ := h.all i _ e
  obtain ⟨a, kvs, rfl, l, ha, k, r⟩ := h.rep.rep i v _ (rootsOf_some.mpr ⟨ev, e⟩)
  exact ⟨a, kvs, ev, l, ha, k, r⟩
theorem SRep.obj_at (h : SRep K cl σ H G L ρ) {i c : Nat} {ns : List Str} {os : List O} (e : ρ[i]? = some (some (.obj c ns os))) : ∃ a dx fs, σ[i]? = some (some (.ref a)) ∧ L a = some [i] ∧ H a = some (.ins (cl c) dx fs) ∧ fs.map (·.1) = ns ∧ RepOs K cl G H L [i] 0 (fs.map (·.2)) os := by
  obtain ⟨v, ev⟩ := h.all i _ e
  obtain ⟨a, dx, fs, rfl, l, ha, k, r⟩ := h.rep.rep i v _ (rootsOf_some.mpr ⟨ev, e⟩)
  exact ⟨a, dx, fs, ev, l, ha, k, r⟩
/-- an item of an owned list replaced by the temporary root -/
theorem SRep.setItem {v : V} {o : O} (h : SRep K cl (σ ++ [some v]) H G L (ρ ++ [some o])) {i k : Nat} {os : List O} (e : ρ[i]? = some (some (.lst os))) :
    ∃ a vs, σ[i]? = some (some (.ref a)) ∧ H a = some (.lst vs) ∧ vs.length = os.length ∧ ∃ L', SRep K cl σ (upd H a (.lst (vs.set k v))) G L' (ρ.set i (some (.lst (os.set k o)))) ∧ Frame H G L (upd H a (.lst (vs.set k v))) G L' := by
  have hl : σ.length = ρ.length := by simpa using h.len
  have hi := (List.getElem?_eq_some_iff.mp e).1
  obtain ⟨a, vs, e1, la, ha, r⟩ := h.lst_at (i := i) (os := os) (by rw [List.getElem?_append_left hi]; exact e)
  rw [List.getElem?_append_left (by omega)] at e1
  have rt := h.rep.rep ρ.length v o (rootsOf_some.mpr ⟨by rw [List.getElem?_append_right (by omega), show ρ.length - σ.length = 0 by omega]; rfl, by rw [List.getElem?_append_right (by omega), Nat.sub_self]; rfl⟩)
  have hne : ∀ b q, L b = some (i :: q) → q ≠ [] → b ≠ a := fun b q l n z => by rw [z, la] at l; cases l; exact n rfl
  have r1 : RepO K cl G (upd H a (.lst (vs.set k v))) (graftL L ρ.length i k) ([i] ++ [k]) v o := by
    have := RepO.move (L := L) (H := H) (L' := graftL L ρ.length i k) (H' := upd H a (.lst (vs.set k v))) (G' := G) (p := [ρ.length]) (p' := [i] ++ [k]) Le.refl (fun b q l => ⟨graft_tmp l, fun x hx => by
      have : b ≠ a := fun z => by rw [z, la] at l; cases l; omega
      rw [upd_ne this]; exact hx⟩) o v [] (by simpa using rt)
    simpa using this
  have r2 := RepOs.kid (G' := G) (H' := upd H a (.lst (vs.set k v))) (L' := graftL L ρ.length i k) (p := [i]) (j0 := k) Le.refl (fun b j q n l => ⟨graft_kid l (by omega) n, fun x hx => by rw [upd_ne (hne b _ l (by simp))]; exact hx⟩) r1 os vs 0 k (by omega) r
  obtain ⟨s, f⟩ := h.graft (ho := .lst (vs.set k v)) (t := .lst (os.set k o)) (fun xs z => by cases z) hi la e1 ⟨_, e⟩ ⟨a, _, rfl, graft_root la (by omega), upd_same, r2⟩
  exact ⟨a, vs, e1, ha, RepOs.length r, _, s, f⟩
/-- appended to an owned list -/
theorem SRep.append {v : V} {o : O} (h : SRep K cl (σ ++ [some v]) H G L (ρ ++ [some o])) {i : Nat} {os : List O} (e : ρ[i]? = some (some (.lst os))) :
    ∃ a vs, σ[i]? = some (some (.ref a)) ∧ H a = some (.lst vs) ∧ vs.length = os.length ∧ ∃ L', SRep K cl σ (upd H a (.lst (vs ++ [v]))) G L' (ρ.set i (some (.lst (os ++ [o])))) ∧ Frame H G L (upd H a (.lst (vs ++ [v]))) G L' := by
  have hl : σ.length = ρ.length := by simpa using h.len
  have hi := (List.getElem?_eq_some_iff.mp e).1
  obtain ⟨a, vs, e1, la, ha, r⟩ := h.lst_at (i := i) (os := os) (by rw [List.getElem?_append_left hi]; exact e)
  rw [List.getElem?_append_left (by omega)] at e1
  have rt := h.rep.rep ρ.length v o (rootsOf_some.mpr ⟨by rw [List.getElem?_append_right (by omega), show ρ.length - σ.length = 0 by omega]; rfl, by rw [List.getElem?_append_right (by omega), Nat.sub_self]; rfl⟩)
  have hne : ∀ b q, L b = some (i :: q) → q ≠ [] → b ≠ a := fun b q l n z => by rw [z, la] at l; cases l; exact n rfl
  have r1 : RepO K cl G (upd H a (.lst (vs ++ [v]))) (graftL L ρ.length i os.length) ([i] ++ [0 + os.length]) v o := by
    have := RepO.move (L := L) (H := H) (L' := graftL L ρ.length i os.length) (H' := upd H a (.lst (vs ++ [v]))) (G' := G) (p := [ρ.length]) (p' := [i] ++ [0 + os.length]) Le.refl (fun b q l => ⟨by rw [Nat.zero_add]; exact graft_tmp l, fun x hx => by
      have : b ≠ a := fun z => by rw [z, la] at l; cases l; omega
      rw [upd_ne this]; exact hx⟩) o v [] (by simpa using rt)
    simpa using this
  -- no node stands under the new place yet
  have hbig : ∀ (os : List O) (vs : List V) (i0 : Nat), RepOs K cl G H L [i] i0 vs os → RepOs K cl G (upd H a (.lst (vs ++ [v]))) L [i] i0 vs os := fun os vs i0 r =>
    RepOs.kids Le.refl (fun b j q l => ⟨l, fun x hx => by rw [upd_ne (hne b _ l (by simp))]; exact hx⟩) os vs i0 r
  have r2 : RepOs K cl G (upd H a (.lst (vs ++ [v]))) (graftL L ρ.length i os.length) [i] 0 vs os := by
    have : ∀ (xs : List O) (ws : List V) (i0 : Nat), i0 + xs.length = os.length → RepOs K cl G H L [i] i0 ws xs → RepOs K cl G (upd H a (.lst (vs ++ [v]))) (graftL L ρ.length i os.length) [i] i0 ws xs := by
      intro xs
      induction xs with
      | nil => intro ws i0 _ r; exact r
      | cons x xs ih =>
        intro ws i0 hn ⟨w, ws', e, r, rs⟩
        simp only [List.length_cons] at hn
        refine ⟨w, ws', e, ?_, ih ws' (i0 + 1) (by omega) rs⟩
        have := RepO.move (L := L) (H := H) (L' := graftL L ρ.length i os.length) (H' := upd H a (.lst (vs ++ [v]))) (G' := G) (p := [i] ++ [i0]) (p' := [i] ++ [i0]) Le.refl (fun b q l => ⟨graft_kid l (by omega) (by omega), fun y hy => by rw [upd_ne (hne b _ l (by simp))]; exact hy⟩) x w [] (by simpa using r)
        simpa using this
    exact this os vs 0 (by omega) r
  obtain ⟨s, f⟩ := h.graft (ho := .lst (vs ++ [v])) (t := .lst (os ++ [o])) (fun xs z => by cases z) hi la e1 ⟨_, e⟩ ⟨a, _, rfl, graft_root la (by omega), upd_same, RepOs.snoc os vs 0 r2 r1⟩
  exact ⟨a, vs, e1, ha, RepOs.length r, _, s, f⟩
end

/-! ### statements -/
inductive Fl where
  | nx
  | bk
  | ct
  | rt (o : O)
abbrev MS := Rho → Option (Fl × Rho)
def Kp (pr : List Nat) (σ σ' : St) : Prop := ∀ i ∈ pr, σ'[i]? = σ[i]?
theorem Kp.refl {pr : List Nat} {σ : St} : Kp pr σ σ := fun _ _ => rfl
theorem Kp.trans {pr : List Nat} {σ σ1 σ2 : St} (a : Kp pr σ σ1) (b : Kp pr σ1 σ2) : Kp pr σ σ2 := fun i hi => (b i hi).trans (a i hi)
section
variable (X : Cx) (cl : Cl)
def Goal (pr : List Nat) (D : Ends) (σ : St) (H G : Hp) (L : Lab) (ρ' : Rho) : Fl → Prop
  | .nx => ∀ σ' H' G' L', SRep X.K cl σ' H' G' L' ρ' → Frame H G L H' G' L' → Kp pr σ σ' → D.nx σ' H'
  | .bk => ∀ σ' H' G' L', SRep X.K cl σ' H' G' L' ρ' → Frame H G L H' G' L' → Kp pr σ σ' → D.bk σ' H'
  | .ct => ∀ σ' H' G' L', SRep X.K cl σ' H' G' L' ρ' → Frame H G L H' G' L' → Kp pr σ σ' → D.ct σ' H'
  | .rt o => ∀ v σ' H' G' L', SRep X.K cl (σ' ++ [some v]) H' G' L' (ρ' ++ [some o]) → Frame H G L H' G' L' → Kp pr σ σ' → D.rt v H'
def tS (pr : List Nat) (g : MS) : TS := fun D σ H => ∃ G L ρ fl ρ', SRep X.K cl σ H G L ρ ∧ g ρ = some (fl, ρ') ∧ Goal X cl pr D σ H G L ρ' fl
def SS (pr : List Nat) (s : Stmt) (g : MS) : Prop := PS X s (tS X cl pr g)
def SSs (pr : List Nat) (s : List Stmt) (g : MS) : Prop := PSs X s (tS X cl pr g)
end
section
variable {X : Cx} {cl : Cl} {e a b c o tg : Expr} {es rest : List Expr} {pos pos' : Pos} {st : Stmt} {sts : List Stmt} {pr : List Nat}
theorem PS.weak {t t' : TS} (h : PS X st t) (w : ∀ D σ H, t' D σ H → t D σ H) : PS X st t' := ⟨fun pins s σ H D I q => h.run pins s σ H D I (w D σ H q)⟩
theorem PSs.weak {t t' : TS} (h : PSs X sts t) (w : ∀ D σ H, t' D σ H → t D σ H) : PSs X sts t' := ⟨fun pins s σ H D I q => h.run pins s σ H D I (w D σ H q)⟩
theorem Goal.step {D : Ends} {σ σ1 : St} {H G H1 G1 : Hp} {L L1 : Lab} {ρ' : Rho} (f : Frame H G L H1 G1 L1) (k : Kp pr σ σ1) : ∀ {fl : Fl}, Goal X cl pr D σ H G L ρ' fl → Goal X cl pr D σ1 H1 G1 L1 ρ' fl
  | .nx, h => fun σ' H' G' L' s f' k' => h σ' H' G' L' s (f.trans f') (k.trans k')
  | .bk, h => fun σ' H' G' L' s f' k' => h σ' H' G' L' s (f.trans f') (k.trans k')
  | .ct, h => fun σ' H' G' L' s f' k' => h σ' H' G' L' s (f.trans f') (k.trans k')
  | .rt o, h => fun v σ' H' G' L' s f' k' => h v σ' H' G' L' s (f.trans f') (k.trans k')
def sSkip : MS := fun ρ => some (.nx, ρ)
theorem ss_nil : SSs X cl pr [] sSkip := PSs.weak pss_nil fun D σ H ⟨G, L, ρ, fl, ρ', hs, hg, q⟩ => by
  cases hg
  exact q σ H G L hs Frame.refl Kp.refl
theorem ss_pass : SS X cl pr (.Pass pos) sSkip := PS.weak ps_pass fun D σ H ⟨G, L, ρ, fl, ρ', hs, hg, q⟩ => by
  cases hg
  exact q σ H G L hs Frame.refl Kp.refl
def sSeq (g h : MS) : MS := fun ρ => match g ρ with
  | some (.nx, ρ1) => h ρ1
  | some (fl, ρ1) => some (fl, ρ1)
  | none => none
theorem ss_cons {g h : MS} (h1 : SS X cl pr st g) (h2 : SSs X cl pr sts h) : SSs X cl pr (st :: sts) (sSeq g h) := PSs.weak (pss_cons h1 h2) fun D σ H ⟨G, L, ρ, fl, ρ', hs, hg, q⟩ => by
  unfold sSeq at hg
  split at hg
  · rename_i ρ1 e1
    exact ⟨G, L, ρ, .nx, ρ1, hs, e1, fun σ1 H1 G1 L1 s1 f1 k1 => ⟨G1, L1, ρ1, fl, ρ', s1, hg, q.step f1 k1⟩⟩
  · rename_i fl' ρ1 n e1
    cases hg
    refine ⟨G, L, ρ, fl, ρ', hs, e1, ?_⟩
    cases fl with
    | nx => exact (n rfl).elim
    | bk => exact q
    | ct => exact q
    | rt o => exact q
  · cases hg
theorem ss_one {g : MS} (h1 : SS X cl pr st g) : SSs X cl pr [st] g := PSs.weak (pss_one h1) fun _ _ _ h => h
/-- x = e -/
def sAsg (i : Nat) (g : MO) : MS := fun ρ => match g ρ with
  | some (o, ρ1) => (match decide (i < ρ1.length) with
    | true => some (.nx, ρ1.set i (some o))
    | false => none)
  | none => none
theorem asg_reads {i : Nat} {g : MO} (hp : i ∉ pr) {D : Ends} {σ : St} {H : Hp} (h : tS X cl pr (sAsg i g) D σ H) : tO X cl g σ H fun x H1 => gName i x σ H1 D.nx := by
  obtain ⟨G, L, ρ, fl, ρ', hs, hg, q⟩ := h
  unfold sAsg at hg
  split at hg
  · rename_i o ρ1 e1
    split at hg
    · rename_i z
      cases hg
      refine ⟨G, L, ρ, o, ρ1, hs, e1, fun v H1 G1 L1 s1 f1 => ?_⟩
      obtain ⟨L2, s2, f2⟩ := s1.store (of_decide_eq_true z)
      exact q _ H1 G1 L2 s2 (f1.trans f2) (fun j hj => by rw [List.getElem?_set_ne]; intro z; subst z; exact hp hj)
    · cases hg
  · cases hg
theorem ss_set (i : Nat) {x : Str} {g : MO} (he : SO X cl e g) (hN : X.N.Nodup) (hi : X.N[i]? = some x := by rfl) (hx : Loc X.env.scope x := by first | exact Or.inl rfl | exact Or.inr rfl) (hp : i ∉ pr := by decide) (hs : swapsWith e (some (.Name x pos')) pos.line X.env = pure false := by rfl) (hf : X.fn x = true ∨ X.env.scope.names.lookup x = some .local := by first | exact .inl rfl | exact .inr rfl | assumption) :
    SS X cl pr (.Assign [.Name x pos'] e pos) (sAsg i g) := PS.weak (ps_set hN hi hx he hs hf) fun D σ H h => asg_reads hp h
/-- x = [.. for ..] on one line -/
theorem ss_setComp (i : Nat) {x : Str} {elt iter : Expr} {ifs : List Expr} {scope : Scope} {own : List (Str × Nat)} {gi : MI} {T : List Nat} {bd : MG} {t : MB} {g : MD} {cpos : Pos} (hi : SI X cl tg iter gi) (ok : BlkOk X.N X.env.scope scope own)
    (hb : ∀ (s : Shared) (H : Hp) (C : Addr) (cs : List (Str × Addr)) (fp : List Addr), SG (X.blk s H scope (compEnvC scope cs C X.env) fp) cl tg T bd)
    (ht : ∀ (s : Shared) (H : Hp) (C : Addr) (cs : List (Str × Addr)) (fp : List Addr), STs (X.blk s H scope (compEnvC scope cs C X.env) fp) cl ifs t)
    (he : ∀ (s : Shared) (H : Hp) (C : Addr) (cs : List (Str × Addr)) (fp : List Addr), SD (X.blk s H scope (compEnvC scope cs C X.env) fp) cl elt g)
    (hN : X.N.Nodup) (hy : X.N[i]? = some x := by rfl) (hyl : X.env.scope.names.lookup x = some .local := by rfl) (hp : i ∉ pr := by decide) (hsw : swapsWith (.ListComp elt [⟨tg, iter, ifs, 0⟩] scope cpos) (some (.Name x pos')) pos.line X.env = pure true := by exact sw_true rfl rfl rfl (by decide +kernel))
    (hT : ∀ i ∈ T, i ∈ own.map (·.2) := by decide) (hc : X.calm = true := by rfl) (hs : ∀ x, foldedSetIterable iter X.env x = pure x := by intro _; rfl) :
    SS X cl pr (.Assign [.Name x pos'] (.ListComp elt [⟨tg, iter, ifs, 0⟩] scope cpos) pos) (sAsg i (oComp gi (own.map (·.2)) bd t g)) :=
  PS.weak (ps_setLc (wi := tI X cl gi) (g := tG X cl T bd) (tt := tB' X cl t) (te := tD X cl g) hc hN hy hyl hsw hi ok hb ht he hs) fun D σ H h => comp_reads hT (asg_reads hp h)
/-- targets = e -/
def sUnp (g : MD) (b : MG) : MS := fun ρ => match g ρ with
  | some (d, ρ1) => (match b d ρ1 with
    | some ρ2 => some (.nx, ρ2)
    | none => none)
  | none => none
theorem ss_unp {T : List Nat} {g : MD} {b : MG} (he : SD X cl e g) (hg : SG X cl tg T b) (hp : ∀ i ∈ T, i ∉ pr := by decide) (hs : swapsWithSole [tg] e pos.line X.env = pure false := by rfl) (hw : swappedStores [tg] e X.env = pure none := by rfl) (h1 : (assignEach [tg] X.env).map (·.2) = [assign tg X.env] := by rfl) :
    SS X cl pr (.Assign [tg] e pos) (sUnp g b) := PS.weak (ps_asg he hg hs hw h1) fun D σ H ⟨G, L, ρ, fl, ρ', hs, hg, q⟩ => by
  unfold sUnp at hg
  split at hg
  · rename_i d ρ1 e1
    split at hg
    · rename_i ρ2 e2
      cases hg
      refine ⟨G, L, ρ, d, ρ1, hs, e1, fun v H1 G1 L1 s1 r1 f1 => ⟨G1, L1, ρ1, d, _, s1, r1, e2, fun σ2 H2 G2 L2 s2 f2 k2 n2 => ?_⟩⟩
      exact q _ H2 G2 L2 s2 (f1.trans f2) fun j hj => k2 j fun z => hp j z hj
    · cases hg
  · cases hg
/-- return e -/
def sRet (g : MO) : MS := fun ρ => match g ρ with
  | some (o, ρ1) => some (.rt o, ρ1)
  | none => none
theorem ss_ret {g : MO} (he : SO X cl e g) : SS X cl pr (.Return (some e) pos) (sRet g) := PS.weak (ps_ret he) fun D σ H ⟨G, L, ρ, fl, ρ', hs, hg, q⟩ => by
  unfold sRet at hg
  split at hg
  · rename_i o ρ1 e1
    cases hg
    exact ⟨G, L, ρ, o, _, hs, e1, fun v H1 G1 L1 s1 f1 => q v σ H1 G1 L1 s1 f1 Kp.refl⟩
  · cases hg
def sRetN : MS := fun ρ => some (.rt (.fz .non), ρ)
theorem ss_retN : SS X cl pr (.Return none pos) sRetN := PS.weak ps_retN fun D σ H ⟨G, L, ρ, fl, ρ', hs, hg, q⟩ => by
  cases hg
  exact q .non σ H G L (hs.push rfl) Frame.refl Kp.refl
/-- a name's owned tree handed over -/
def oMove (i : Nat) : MO := fun ρ => match ρ[i]? with
  | some (some o) => some (o, ρ.set i none)
  | _ => none
theorem so_move (i : Nat) {x : Str} (h : PE X (.Name x pos) (tVar i)) : SO X cl (.Name x pos) (oMove i) := PE.weak h fun σ H Q ⟨G, L, ρ, o, ρ', hs, hg, q⟩ => by
  unfold oMove at hg
  split at hg
  · rename_i o' e1
    cases hg
    obtain ⟨v, ev⟩ := hs.all i _ e1
    have hi := (List.getElem?_eq_some_iff.mp e1).1
    refine ⟨v, ev, ?_⟩
    -- the slot's root renamed to the temporary one
    let n := ρ.length
    let k : Nat → Option Nat := fun j => if j = n then some i else if j = i then none else if j < n then some j else none
    let k' : Nat → Option Nat := fun j => if j = i then some n else if j < n then some j else none
    have hk : ∀ a b, k' a = some b ↔ k b = some a := fun a b => by
      simp only [k, k']
      constructor
      · intro e
        split at e
        · cases e
          rename_i z
          rw [if_pos rfl, z]
        · split at e
          · cases e
            rename_i z1 z2
            rw [if_neg (by omega), if_neg z1, if_pos z2]
          · cases e
      · intro e
        split at e
        · cases e
          rename_i z
          rw [if_pos rfl, z]
        · split at e
          · cases e
          · split at e
            · cases e
              rename_i z1 z2 z3
              rw [if_neg z2, if_pos z3]
            · cases e
    refine q v H G (subL L k') (SRep.of_rep (by simp [hs.len]) (fun j o2 e => ?_) (hs.rep.sub k k' hk) fun j => ?_) ⟨fun b x e l => ⟨e, by unfold subL; rw [l], id⟩, Le.refl⟩
    · rw [get_app] at e ⊢
      rw [hs.len]
      simp only [List.length_set] at e
      split at e
      · rename_i z
        rw [if_pos z]
        by_cases y : j = i
        · subst y; rw [List.getElem?_set_self z] at e; cases e
        · rw [List.getElem?_set_ne (Ne.symm y)] at e
          exact hs.all j o2 e
      · rename_i z
        rw [if_neg z]
        split at e
        · rename_i z2
          rw [if_pos z2]
          exact ⟨v, rfl⟩
        · cases e
    · simp only [k]
      rw [rootsOf_app (by simp [hs.len])]
      simp only [List.length_set]
      by_cases z : j = n
      · rw [if_pos z, if_neg (by omega)]
        show rootsOf σ ρ i = _
        rw [rootsOf_some.mpr ⟨ev, e1⟩, z]
        simp [rootsOf, n]
      · rw [if_neg z]
        by_cases y : j = i
        · rw [if_pos y, if_pos (by omega)]
          show none = _
          subst y
          unfold rootsOf
          rw [List.getElem?_set_self hi]
          split
          · rename_i e3; cases e3
          · rfl
        · rw [if_neg y]
          by_cases w : j < n
          · rw [if_pos w, if_pos w]
            show rootsOf σ ρ j = _
            unfold rootsOf
            rw [List.getElem?_set_ne (Ne.symm y)]
          · rw [if_neg w, if_neg w]
            show none = _
            rw [rootsOf_ge]
            simp
            omega
  · cases hg
/-- a name's tree frozen where it stands -/
def mTake (i : Nat) : MD := fun ρ => match ρ[i]? with
  | some (some o) => some (o.frz, ρ.set i (some (.fz o.frz)))
  | _ => none
theorem sd_take (i : Nat) {x : Str} (h : PE X (.Name x pos) (tVar i)) : SD X cl (.Name x pos) (mTake i) := PE.weak h fun σ H Q ⟨G, L, ρ, d, ρ', hs, hg, q⟩ => by
  unfold mTake at hg
  split at hg
  · rename_i o e1
    cases hg
    obtain ⟨v, ev⟩ := hs.all i _ e1
    have hi := (List.getElem?_eq_some_iff.mp e1).1
    obtain ⟨r1, r2, r3⟩ := hs.rep.freeze (rootsOf_some.mpr ⟨ev, e1⟩)
    refine ⟨v, ev, q v H _ _ (⟨by simp [hs.len], fun j o2 e => ?_, ⟨r1.ge, r1.sep, r1.imm, fun j w o2 e => ?_, fun b p l => ?_⟩⟩) r2 r3⟩
    · by_cases y : j = i
      · subst y; exact ⟨v, ev⟩
      · rw [List.getElem?_set_ne (Ne.symm y)] at e
        exact hs.all j o2 e
    · obtain ⟨e3, e4⟩ := rootsOf_some.mp e
      by_cases y : j = i
      · subst y
        rw [List.getElem?_set_self hi] at e4
        rw [ev] at e3
        cases e3
        cases e4
        exact r2
      · rw [List.getElem?_set_ne (Ne.symm y)] at e4
        refine r1.rep j w o2 ?_
        rw [if_neg y]
        exact rootsOf_some.mpr ⟨e3, e4⟩
    · obtain ⟨j, r', e3, e4⟩ := r1.own b p l
      refine ⟨j, r', e3, ?_⟩
      by_cases y : j = i
      · subst y; rw [rootsOf_some.mpr ⟨ev, List.getElem?_set_self hi⟩]; rfl
      · rw [if_neg y] at e4
        obtain ⟨⟨w, o2⟩, e5⟩ := Option.isSome_iff_exists.mp e4
        obtain ⟨e6, e7⟩ := rootsOf_some.mp e5
        rw [rootsOf_some.mpr ⟨e6, by rw [List.getElem?_set_ne (Ne.symm y)]; exact e7⟩]
        rfl
  · cases hg
/-- an expression alone -/
def sDrop (g : MO) : MS := fun ρ => match g ρ with
  | some (_, ρ1) => some (.nx, ρ1)
  | none => none
theorem ss_expr {g : MO} (he : SO X cl e g) (hs : swapsWith e none pos.line X.env = pure false := by rfl) : SS X cl pr (.Expr e pos) (sDrop g) := PS.weak (ps_expr he hs) fun D σ H ⟨G, L, ρ, fl, ρ', hs, hg, q⟩ => by
  unfold sDrop at hg
  split at hg
  · rename_i o ρ1 e1
    cases hg
    refine ⟨G, L, ρ, o, _, hs, e1, fun v H1 G1 L1 s1 f1 => ?_⟩
    obtain ⟨G2, L2, s2, _, f2⟩ := s1.pop
    exact q σ H1 G2 L2 s2 (f1.trans f2) Kp.refl
  · cases hg
/-- if -/
def sIf (c : MB) (g h : MS) : MS := fun ρ => match c ρ with
  | some (true, ρ1) => g ρ1
  | some (false, ρ1) => h ρ1
  | none => none
theorem ss_if {k : MB} {g h : MS} {body orelse : List Stmt} (hc : ST X cl c k) (ha : SSs X cl pr body g) (hb : SSs X cl pr orelse h) : SS X cl pr (.If c body orelse pos) (sIf k g h) := PS.weak (ps_if hc ha hb) fun D σ H ⟨G, L, ρ, fl, ρ', hs, hg, q⟩ => by
  unfold sIf at hg
  split at hg
  · rename_i ρ1 e1
    exact ⟨G, L, ρ, true, ρ1, hs, e1, fun H1 G1 L1 s1 f1 => iteT ⟨G1, L1, ρ1, fl, ρ', s1, hg, q.step f1 Kp.refl⟩⟩
  · rename_i ρ1 e1
    exact ⟨G, L, ρ, false, ρ1, hs, e1, fun H1 G1 L1 s1 f1 => iteF ⟨G1, L1, ρ1, fl, ρ', s1, hg, q.step f1 Kp.refl⟩⟩
  · cases hg
/-- for -/
def forLoop (b : MG) (body : MS) : List D → Rho → Option (Fl × Rho)
  | [], ρ => some (.nx, ρ)
  | d :: ds, ρ => (match b d ρ with
    | some ρ1 => (match body ρ1 with
      | some (.nx, ρ2) => forLoop b body ds ρ2
      | some (.ct, ρ2) => forLoop b body ds ρ2
      | some (.bk, ρ2) => some (.nx, ρ2)
      | some (.rt o, ρ2) => some (.rt o, ρ2)
      | none => none)
    | none => none)
def sFor (gi : MI) (b : MG) (body : MS) : MS := fun ρ => match gi ρ with
  | some (ds, ρ1) => forLoop b body ds ρ1
  | none => none
theorem ss_for {gi : MI} {T : List Nat} {bd : MG} {g : MS} {iter : Expr} {body : List Stmt} (hi : SI X cl tg iter gi) (hb : SG X cl tg T bd) (hd : SSs X cl pr body g) (hpo : PassesOwn (model X.prog X.w) X.A X.env X.xe := by exact PassesOwn.never) (hp : ∀ i ∈ T, i ∉ pr := by decide) (hc : X.calm = true := by rfl)
    (hs : ∀ x, foldedSetIterable iter X.env x = pure x := by intro _; rfl) : SS X cl pr (.For tg iter body [] pos) (sFor gi bd g) := PS.weak (ps_for hpo hc hi hb hd hs) fun D σ H ⟨G, L, ρ, fl, ρ', hs, hg, q⟩ => by
  unfold sFor at hg
  split at hg
  · rename_i ds ρ1 e1
    refine ⟨G, L, ρ, ds, ρ1, hs, e1, fun J H1 G1 L1 s1 f1 it => ?_⟩
    refine ⟨fun i m σc Hc => m = ds.length - i ∧ i ≤ ds.length ∧ ∃ Gc Lc ρc, SRep X.K cl σc Hc Gc Lc ρc ∧ forLoop bd g (ds.drop i) ρc = some (fl, ρ') ∧ Frame H1 G1 L1 Hc Gc Lc ∧ Kp pr σ σc, ⟨ds.length, by simp, Nat.zero_le _, G1, L1, ρ1, s1, by simpa using hg, Frame.refl, Kp.refl⟩, ?_⟩
    rintro i m σc Hc ⟨rfl, hi, Gc, Lc, ρc, sc, ec, fc, kc⟩
    have q1 := q.step f1 (Kp.refl (σ := σ))
    by_cases hlt : i < ds.length
    · refine .inr ?_
      have ed : ds[i]? = some ds[i] := List.getElem?_eq_getElem hlt
      have edrop : ds.drop i = ds[i] :: ds.drop (i + 1) := (List.getElem_cons_drop hlt).symm
      rw [edrop] at ec
      obtain ⟨hgo, hy⟩ := it.go i Hc Gc ds[i] fc.le sc.le sc.rep.imm ed
      refine ⟨hgo, fun σn Hn => i + 1 ≤ ds.length ∧ ∃ Gc Lc ρc, SRep X.K cl σn Hn Gc Lc ρc ∧ forLoop bd g (ds.drop (i + 1)) ρc = some (fl, ρ') ∧ Frame H1 G1 L1 Hn Gc Lc ∧ Kp pr σ σn, fun σn Hn hn => ⟨ds.length - (i + 1), by omega, rfl, hn⟩, fun x Hy yy => ?_⟩
      obtain ⟨G3, ext, rx⟩ := hy x Hy yy
      obtain ⟨s3, f3⟩ := sc.ext ext
      simp only [forLoop] at ec
      split at ec
      · rename_i ρ3 e3
        refine ⟨G3, Lc, ρc, ds[i], ρ3, s3, rx, e3, fun σ4 H4 G4 L4 s4 f4 k4 n4 => ?_⟩
        have kp4 : Kp pr σc σ4 := fun j hj => k4 j fun z => hp j z hj
        have f14 := (fc.trans f3).trans f4
        split at ec
        · rename_i ρ5 e5
          exact ⟨G4, L4, ρ3, .nx, ρ5, s4, e5, fun σ5 H5 G5 L5 s5 f5 k5 => ⟨hlt, G5, L5, ρ5, s5, ec, f14.trans f5, (kc.trans kp4).trans k5⟩⟩
        · rename_i ρ5 e5
          exact ⟨G4, L4, ρ3, .ct, ρ5, s4, e5, fun σ5 H5 G5 L5 s5 f5 k5 => ⟨hlt, G5, L5, ρ5, s5, ec, f14.trans f5, (kc.trans kp4).trans k5⟩⟩
        · rename_i ρ5 e5
          cases ec
          exact ⟨G4, L4, ρ3, .bk, _, s4, e5, fun σ5 H5 G5 L5 s5 f5 k5 => q1 σ5 H5 G5 L5 s5 (f14.trans f5) ((kc.trans kp4).trans k5)⟩
        · rename_i o' ρ5 e5
          cases ec
          exact ⟨G4, L4, ρ3, .rt o', _, s4, e5, fun v σ5 H5 G5 L5 s5 f5 k5 => q1 v σ5 H5 G5 L5 s5 (f14.trans f5) ((kc.trans kp4).trans k5)⟩
        · cases ec
      · cases ec
    · have hi2 : i = ds.length := by omega
      subst hi2
      simp only [List.drop_length, forLoop] at ec
      cases ec
      exact .inl ⟨it.stop _ Hc (fc.le.trans sc.le) (Nat.le_refl _), q1 σc Hc Gc Lc sc fc kc⟩
  · cases hg
/-- while, by so many turns at most -/
def whileLoop (c : MB) (body : MS) : Nat → Rho → Option (Fl × Rho)
  | 0, _ => none
  | n + 1, ρ => (match c ρ with
    | some (true, ρ1) => (match body ρ1 with
      | some (.nx, ρ2) => whileLoop c body n ρ2
      | some (.ct, ρ2) => whileLoop c body n ρ2
      | some (.bk, ρ2) => some (.nx, ρ2)
      | some (.rt o, ρ2) => some (.rt o, ρ2)
      | none => none)
    | some (false, ρ1) => some (.nx, ρ1)
    | none => none)
theorem ss_while {k : MB} {g : MS} {body : List Stmt} (n : Nat) (hc : ST X cl c k) (hd : SSs X cl pr body g) (hpo : PassesOwn (model X.prog X.w) X.A X.env X.xe := by exact PassesOwn.never) : SS X cl pr (.While c body [] pos) (whileLoop k g n) :=
  PS.weak (ps_while hpo hc hd) fun D σ H ⟨G, L, ρ, fl, ρ', hs, hg, q⟩ => by
    refine ⟨fun m σc Hc => ∃ Gc Lc ρc, SRep X.K cl σc Hc Gc Lc ρc ∧ whileLoop k g m ρc = some (fl, ρ') ∧ Frame H G L Hc Gc Lc ∧ Kp pr σ σc, ⟨n, G, L, ρ, hs, hg, Frame.refl, Kp.refl⟩, ?_⟩
    rintro m σc Hc ⟨Gc, Lc, ρc, sc, ec, fc, kc⟩
    cases m with
    | zero => cases ec
    | succ m =>
      simp only [whileLoop] at ec
      split at ec
      · rename_i ρ1 e1
        refine ⟨Gc, Lc, ρc, true, ρ1, sc, e1, fun H1 G1 L1 s1 f1 => iteT ?_⟩
        refine ⟨fun σn Hn => ∃ Gc Lc ρc, SRep X.K cl σn Hn Gc Lc ρc ∧ whileLoop k g m ρc = some (fl, ρ') ∧ Frame H G L Hn Gc Lc ∧ Kp pr σ σn, fun σn Hn hn => ⟨m, Nat.lt_succ_self _, hn⟩, ?_⟩
        split at ec
        · rename_i ρ5 e5
          exact ⟨G1, L1, ρ1, .nx, ρ5, s1, e5, fun σ5 H5 G5 L5 s5 f5 k5 => ⟨G5, L5, ρ5, s5, ec, (fc.trans f1).trans f5, kc.trans k5⟩⟩
        · rename_i ρ5 e5
          exact ⟨G1, L1, ρ1, .ct, ρ5, s1, e5, fun σ5 H5 G5 L5 s5 f5 k5 => ⟨G5, L5, ρ5, s5, ec, (fc.trans f1).trans f5, kc.trans k5⟩⟩
        · rename_i ρ5 e5
          cases ec
          exact ⟨G1, L1, ρ1, .bk, _, s1, e5, fun σ5 H5 G5 L5 s5 f5 k5 => q σ5 H5 G5 L5 s5 ((fc.trans f1).trans f5) (kc.trans k5)⟩
        · rename_i o' ρ5 e5
          cases ec
          exact ⟨G1, L1, ρ1, .rt o', _, s1, e5, fun v σ5 H5 G5 L5 s5 f5 k5 => q v σ5 H5 G5 L5 s5 ((fc.trans f1).trans f5) (kc.trans k5)⟩
        · cases ec
      · rename_i ρ1 e1
        cases ec
        exact ⟨Gc, Lc, ρc, false, _, sc, e1, fun H1 G1 L1 s1 f1 => iteF (q σc H1 G1 L1 s1 (fc.trans f1) kc)⟩
      · cases ec
end
end PI
set_option Elab.async false
set_option linter.all false
set_option maxRecDepth 100000
set_option maxHeartbeats 1000000
set_option autoImplicit false
/-! PI11: stores into owned lists, dicts, instances. -/
namespace PI
open PySem PySem.Spec L2
section
variable {X : Cx} {cl : Cl} {e a b c o tg ix : Expr} {es rest : List Expr} {pos pos' : Pos} {st : Stmt} {sts : List Stmt} {pr : List Nat}
/-- x[k] = e, x a name of an owned list; e, then k -/
def sItem (i : Nat) (gk : MD) (g : MO) : MS := fun ρ => match g ρ with
  | some (o, ρ1) => (match gk ρ1 with
    | some (.int k, ρ2) => (match ρ2[i]? with
      | some (some (.lst os)) => (match ixN os.length k, ρ1[i]? with
        | some j, some (some _) => some (.nx, ρ2.set i (some (.lst (os.set j o))))
        | _, _ => none)
      | _ => none)
    | _ => none)
  | none => none
theorem ss_item (i : Nat) {x : Str} {xp ipos : Pos} {gk : MD} {g : MO} (he : SO X cl e g) (hx : PE X (.Name x xp) (tVar i)) (hk : SD X cl ix gk)
    (hs : swapsWithSole [.Subscript (.Name x xp) ix ipos] e pos.line X.env = pure false := by rfl) (hw : swappedStores [.Subscript (.Name x xp) ix ipos] e X.env = pure none := by rfl) (h1 : (assignEach [.Subscript (.Name x xp) ix ipos] X.env).map (·.2) = [assign (.Subscript (.Name x xp) ix ipos) X.env] := by rfl)
    (ha : ∀ v, assign (.Subscript (.Name x xp) ix ipos) X.env v = (do
      let ov ← holding [v] (eval (.Name x xp) X.env)
      let iv ← holding [v, ov] (eval ix X.env)
      standAt ipos
      holding [v, ov, iv] (setItem ov iv v)
      release [v, ov, iv] []) := by intro _; rfl) :
    SS X cl pr (.Assign [.Subscript (.Name x xp) ix ipos] e pos) (sItem i gk g) := PS.weak (ps_asg he (pg_sub hx hk set_list ha) hs hw h1) fun D σ H ⟨G, L, ρ, fl, ρ', hs, hg, q⟩ => by
  unfold sItem at hg
  split at hg
  · rename_i o ρ1 e1
    split at hg
    · rename_i k ρ2 e2
      split at hg
      · rename_i os e3
        split at hg
        · rename_i j t0 e4 e5
          cases hg
          refine ⟨G, L, ρ, o, ρ1, hs, e1, fun v H1 G1 L1 s1 f1 => ?_⟩
          have l1 : σ.length = ρ1.length := by simpa using s1.len
          have sl := s1.low l1
          obtain ⟨w, ew⟩ := sl.all i _ e5
          refine ⟨w, ew, G1, _, ρ1, .int k, ρ2, sl, e2, fun kv H2 G2 L2 s2 r2 f2 => ?_⟩
          cases r2
          obtain ⟨L3, s3, f3⟩ := s1.beside (ν := []) (ξ := []) l1 (by simpa using s2) (by have := s2.len; omega) f2
          obtain ⟨p, vs, c1, c2, c3, L4, s4, f4⟩ := SRep.setItem (k := j) (by simpa using s3) e3
          rw [ew] at c1
          cases c1
          exact ⟨p, vs, k, j, rfl, rfl, c2, by rw [c3]; exact e4, q σ _ G2 L4 s4 ((f1.trans f3).trans f4) Kp.refl⟩
        · cases hg
      · cases hg
    · cases hg
  · cases hg
/-- x.append(e), x a name of an owned list -/
def sAppend (i : Nat) (g : MO) : MS := fun ρ => match ρ[i]? with
  | some (some (.lst _)) => (match g ρ with
    | some (o, ρ1) => (match ρ1[i]? with
      | some (some (.lst os)) => (match decide (os.length < sizeLine) with
        | true => some (.nx, ρ1.set i (some (.lst (os ++ [o]))))
        | false => none)
      | _ => none)
    | none => none)
  | _ => none
theorem ss_append (i : Nat) {x : Str} {xp apos cpos : Pos} {g : MO} (he : SO X cl e g) (hx : PE X (.Name x xp) (tVar i)) (hsw : swapsWith (.Call (.Attribute (.Name x xp) "append" apos) [e] [] cpos) none pos.line X.env = pure false := by rfl)
    (hb : attributeBase (.Name x xp) "append" X.env (eval (.Name x xp) X.env) = eval (.Name x xp) X.env := by rfl)
    (hfew : ((backTo cpos (starEach [e] X.env)).all (fun x => !x.1) && (backToKw cpos (keywordEach [] X.env)).all (fun x => x.1.isSome) && decide ([e].length + ([] : List Keyword).length + (if ([] : List Keyword).isEmpty then 0 else 1) < 30)) = true := by rfl)
    (hline : (apos.endLine == cpos.line) = true := by rfl) (hs : starEach [e] X.env = (false, eval e X.env) :: starEach [] X.env := by rfl) : SS X cl pr (.Expr (.Call (.Attribute (.Name x xp) "append" apos) [e] [] cpos) pos) (sAppend i g) := by
  have hA : SA X cl [e] [none] (aCons g aNil) := sa_cons he sa_nil hs
  refine PS.weak (ps_expr (pe_bm PySem.F.plainAttrs_list PySem.F.slot_list_append PySem.F.type_list_append mt_append hx hA hb hfew hline hs (by rfl)) hsw) fun D σ H ⟨G, L, ρ, fl, ρ', hs, hg, q⟩ => ?_
  unfold sAppend at hg
  split at hg
  · rename_i os0 e0
    split at hg
    · rename_i o ρ1 e1
      split at hg
      · rename_i os e2
        split at hg
        · rename_i z
          cases hg
          obtain ⟨p, vs0, c1, _, c2, _⟩ := hs.lst_at e0
          refine ⟨_, c1, .inl ⟨rfl, vs0, SqL.of c2⟩, G, L, ρ, [some o], ρ1, hs, by simp [aCons, aNil, e1], fun vs H1 G1 L1 s1 n1 _ f1 => ?_⟩
          have hv : vs.length = 1 := by have := s1.len; have := hs.len; simp at *; omega
          obtain ⟨v, rfl⟩ : ∃ v, vs = [v] := by
            cases vs with
            | nil => cases hv
            | cons v ws => cases ws with
              | nil => exact ⟨v, rfl⟩
              | cons _ _ => simp at hv
          obtain ⟨p', vs', d1, d2, d3, L4, s4, f4⟩ := SRep.append (by simpa using s1) e2
          rw [c1] at d1
          cases d1
          exact ⟨p, vs', v, rfl, rfl, d2, by rw [d3]; exact of_decide_eq_true z, q σ _ G1 L4 s4 (f1.trans f4) Kp.refl⟩
        · cases hg
      · cases hg
    · cases hg
  · cases hg
/-! dicts -/
def hasK (ks : List Key) (k : Key) : Bool := ks.any fun k' => decide (k' = k)
def putO : List Key → List O → Key → D → List O
  | k :: ks, o :: os, j, d => (if k = j then .fz d else o) :: putO ks os j d
  | _, _, _, _ => []
theorem putO_ok {K : PySem.W.Frag} {G H H' : Hp} {L : Lab} {p : Path} {j : Key} {v : V} {d : D} (hv : RepV K cl G v d) (hm : ∀ a j r, L a = some (p ++ j :: r) → ∀ x, H a = some x → H' a = some x) : ∀ (kvs : List (Key × V)) (os : List O) (i : Nat), RepOs K cl G H L p i (kvs.map (·.2)) os →
    RepOs K cl G H' L p i ((kvs.map fun kv => if kv.1 = j then (kv.1, v) else kv).map (·.2)) (putO (kvs.map (·.1)) os j d)
  | [], _, _, _ => by
    simp only [List.map_nil, putO]
    exact rfl
  | (k, w) :: kvs, [], _, r => by cases r
  | (k, w) :: kvs, o :: os, i, ⟨w', ws, e, r, rs⟩ => by
    simp only [List.map_cons, List.cons.injEq] at e
    obtain ⟨rfl, rfl⟩ := e
    simp only [List.map_cons, putO]
    refine ⟨_, _, rfl, ?_, putO_ok hv hm kvs os (i + 1) rs⟩
    by_cases z : k = j
    · rw [if_pos z, if_pos z]
      exact hv
    · rw [if_neg z, if_neg z]
      have := RepO.move (L := L) (H := H) (L' := L) (H' := H') (p := p ++ [i]) (p' := p ++ [i]) Le.refl (fun a q l => ⟨l, hm a i q (by rw [l]; simp)⟩) o w [] (by simpa using r)
      simpa using this
/-- d[y] = e, d a name of an owned dict; e, then y -/
def sPut (i : Nat) (gk : MD) (g : MD) : MS := fun ρ => match g ρ with
  | some (d, ρ1) => (match gk ρ1 with
    | some (y, ρ2) => (match keyD y, ρ2[i]?, ρ1[i]? with
      | some k, some (some (.dct ks os)), some (some _) => (match decide (ks.length < sizeLine) with
        | true => some (.nx, ρ2.set i (some (match hasK ks k with | true => .dct ks (putO ks os k d) | false => .dct (ks ++ [k]) (os ++ [.fz d]))))
        | false => none)
      | _, _, _ => none)
    | _ => none)
  | none => none
theorem ss_put (i : Nat) {x : Str} {xp ipos : Pos} {gk g : MD} (hu : X.A.units + 1 < cLine) (he : SD X cl e g) (hx : PE X (.Name x xp) (tVar i)) (hk : SD X cl ix gk) (hs : swapsWith e (some (.Subscript (.Name x xp) ix ipos)) pos.line X.env = pure false := by rfl) :
    SS X cl pr (.Assign [.Subscript (.Name x xp) ix ipos] e pos) (sPut i gk g) := PS.weak (ps_dput hu hx hk he hs) fun D σ H ⟨G, L, ρ, fl, ρ', hs, hg, q⟩ => by
  unfold sPut at hg
  split at hg
  · rename_i d ρ1 e1
    split at hg
    · rename_i y ρ2 e2
      split at hg
      · rename_i k ks os t0 e3 e4 e5
        split at hg
        · rename_i z
          cases hg
          have z := of_decide_eq_true z
          refine ⟨G, L, ρ, d, ρ1, hs, e1, fun v H1 G1 L1 s1 r1 f1 => ?_⟩
          obtain ⟨w, ew⟩ := s1.all i _ e5
          refine ⟨w, ew, G1, L1, ρ1, y, ρ2, s1, e2, fun yv H2 G2 L2 s2 r2 f2 => ?_⟩
          obtain ⟨p, kvs, c1, la, c2, c3, rr⟩ := s2.dct_at e4
          rw [ew] at c1
          cases c1
          have hi := (List.getElem?_eq_some_iff.mp e4).1
          have kl : kvs.length = ks.length := by rw [← c3]; simp
          refine ⟨p, _, rfl, .inl ⟨kvs, k, c2, keyD_ok e3 r2, by omega, rfl⟩, ?_⟩
          have any : (kvs.any fun kv => decide (kv.1 = k)) = hasK ks k := by
            rw [← c3]
            unfold hasK
            rw [List.any_map]
            rfl
          have hne : ∀ b q, L2 b = some (i :: q) → q ≠ [] → b ≠ p := fun b q l n z => by rw [z, la] at l; cases l; exact n rfl
          have rv := r1.mono f2.le
          -- the dict under its root with the new entries
          have key : ∃ t, (match hasK ks k with | true => O.dct ks (putO ks os k d) | false => O.dct (ks ++ [k]) (os ++ [.fz d])) = t ∧ RepO X.K cl G2 (upd H2 p (.dK (putK kvs k v))) L2 [i] (.ref p) t := by
            refine ⟨_, rfl, ?_⟩
            cases hk : hasK ks k with
            | true =>
              show RepO X.K cl G2 (upd H2 p (.dK (putK kvs k v))) L2 [i] (.ref p) (O.dct ks (putO ks os k d))
              have e6 : putK kvs k v = kvs.map fun kv => if kv.1 = k then (kv.1, v) else kv := by
                unfold putK
                rw [any, hk, if_pos rfl]
              rw [e6]
              refine ⟨p, _, rfl, la, upd_same, ?_, ?_⟩
              · rw [← c3, List.map_map]
                refine List.map_congr_left fun kv _ => ?_
                show (if kv.1 = k then (kv.1, v) else kv).1 = kv.1
                split <;> rfl
              · rw [← c3]
                exact putO_ok rv (fun b j r l x hx => by rw [upd_ne (hne b _ l (by simp))]; exact hx) kvs os 0 rr
            | false =>
              show RepO X.K cl G2 (upd H2 p (.dK (putK kvs k v))) L2 [i] (.ref p) (O.dct (ks ++ [k]) (os ++ [.fz d]))
              have e6 : putK kvs k v = kvs ++ [(k, v)] := by
                unfold putK
                rw [any, hk, if_neg Bool.false_ne_true]
              rw [e6]
              refine ⟨p, _, rfl, la, upd_same, by rw [List.map_append, c3]; rfl, ?_⟩
              rw [List.map_append]
              exact RepOs.snoc os _ 0 (RepOs.kids Le.refl (fun b j q l => ⟨l, fun x hx => by rw [upd_ne (hne b _ l (by simp))]; exact hx⟩) os _ 0 rr) rv
          obtain ⟨t, et, rt⟩ := key
          rw [et] at q
          have ga : G2 p = none := (s2.rep.sep p _ la).1
          refine q σ _ G2 L2 ⟨by simp [s2.len], fun m o' e => ?_, ⟨fun b x hb => ?_, fun b p' l => ?_, fun b xs e => ?_, fun m v' o' e => ?_, fun b p' l => ?_⟩⟩ ((f1.trans f2).trans ⟨fun b x e l => ?_, Le.refl⟩) Kp.refl
          · by_cases y : m = i
            · subst y; exact ⟨_, ew⟩
            · rw [List.getElem?_set_ne (Ne.symm y)] at e
              exact s2.all m o' e
          · rw [upd_ne (fun z => by rw [z, ga] at hb; cases hb)]
            exact s2.le b x hb
          · obtain ⟨g, x, hx⟩ := s2.rep.sep b p' l
            refine ⟨g, ?_⟩
            by_cases y : b = p
            · subst y; exact ⟨_, upd_same⟩
            · exact ⟨x, by rw [upd_ne y]; exact hx⟩
          · by_cases y : b = p
            · subst y; rw [upd_same] at e; cases e
            · rw [upd_ne y] at e; exact s2.rep.imm b xs e
          · obtain ⟨d1, d2⟩ := rootsOf_some.mp e
            by_cases y : m = i
            · subst y
              rw [List.getElem?_set_self hi] at d2
              rw [ew] at d1
              cases d1
              cases d2
              exact rt
            · rw [List.getElem?_set_ne (Ne.symm y)] at d2
              have := RepO.move (L := L2) (H := H2) (L' := L2) (H' := upd H2 p (.dK (putK kvs k v))) (G' := G2) (p := [m]) (p' := [m]) Le.refl (fun b q l => ⟨l, fun x hx => by
                rw [upd_ne (fun z => by rw [z, la] at l; cases l; exact y rfl)]; exact hx⟩) o' v' [] (by simpa using s2.rep.rep m v' o' (rootsOf_some.mpr ⟨d1, d2⟩))
              simpa using this
          · obtain ⟨m, r', d1, d2⟩ := s2.rep.own b p' l
            refine ⟨m, r', d1, ?_⟩
            by_cases y : m = i
            · subst y; rw [rootsOf_some.mpr ⟨ew, List.getElem?_set_self hi⟩]; rfl
            · obtain ⟨⟨w, o2⟩, d5⟩ := Option.isSome_iff_exists.mp d2
              obtain ⟨d6, d7⟩ := rootsOf_some.mp d5
              rw [rootsOf_some.mpr ⟨d6, by rw [List.getElem?_set_ne (Ne.symm y)]; exact d7⟩]
              rfl
          · rw [upd_ne (fun z => by rw [z, la] at l; cases l)]
            exact ⟨e, l, id⟩
        · cases hg
      · cases hg
    · cases hg
  · cases hg
end
end PI
set_option Elab.async false
set_option linter.all false
set_option maxRecDepth 100000
set_option maxHeartbeats 1000000
set_option autoImplicit false
/-! PI12: calls with frozen arguments, instances made, fields stored, dict displays; defs. -/
namespace PI
open PySem PySem.Spec L2
section
variable {K : PySem.W.Frag} {cl : Cl} {G G' H H' : Hp} {L L' : Lab} {σ σ' τ : St} {ρ ρ' ω : Rho}
/-- frozen values as temporary roots -/
theorem SRep.pushes : ∀ (ds : List D) (vs : List V) {σ : St} {ρ : Rho}, SRep K cl σ H G L ρ → RepVs K cl G vs ds → SRep K cl (σ ++ vs.map some) H G L (ρ ++ ds.map fun d => some (.fz d))
  | [], vs, σ, ρ, h, r => by
    cases r
    simpa using h
  | d :: ds, _, σ, ρ, h, ⟨v, ws, e, r, rs⟩ => by
    subst e
    have := SRep.pushes ds ws (h.push r) rs
    simpa using this
theorem gather_fz : ∀ (ds : List D) (ρ : Rho), gather (ds.map fun _ => none) (ds.map fun d => some (.fz d)) ρ = some (ds.map .fz)
  | [], _ => rfl
  | d :: ds, ρ => by simp [gather, gather_fz ds ρ]
theorem lendOk_none : ∀ (ds : List D), lendOk (ds.map fun _ => none) = true
  | [] => rfl
  | d :: ds => by simp [lendOk, lendOk_none ds]
theorem setL_none : ∀ (ds : List D) (os ρ : Rho), setL (ds.map fun _ => none) os ρ = ρ
  | [], os, ρ => by simp [setL]
  | d :: ds, [], ρ => by simp [setL]
  | d :: ds, o :: os, ρ => by simp [setL, setL_none ds os ρ]
/-- the callee's side of a call -/
theorem call_core {fn : Fn} {ks : Lends} (hk : lendOk ks = true) {vs : List V} {as : List O} {r : O} {as' : Rho} {Q : VK} {E : XK} (s1 : SRep K cl (σ ++ vs.map some) H G L (ρ ++ ω)) (l1 : σ.length = ρ.length)
    (le1 : ∀ (k i : Nat), ks[k]? = some (some i) → ∃ v, vs[k]? = some v ∧ σ[i]? = some (some v)) (e2 : gather ks ω ρ = some as) (e3 : fn as = some (r, as')) (e4 : as'.length = as.length)
    (q : ∀ v H' G' L', SRep K cl (σ ++ [some v]) H' G' L' (setL ks as' ρ ++ [some r]) → Frame H G L H' G' L' → Q v H') : spOf K cl fn vs H Q E := by
  obtain ⟨g1, g2, g3, g4⟩ := gather_spec ks ω ρ as e2
  have nd := srcOf_nodup (n := ρ.length) 0 ks hk g3
  have hv : vs.length = ks.length := by have := s1.len; simp at this; omega
  have sl := srcOf_length ρ.length 0 ks
  have key : ∀ (j i : Nat), (srcOf ρ.length 0 ks)[j]? = some i → ∃ v o, vs[j]? = some v ∧ as[j]? = some o ∧ rootsOf (σ ++ vs.map some) (ρ ++ ω) i = some (v, o) ∧ (i < ρ.length → σ[i]? = some (some v)) := fun j i z => by
    obtain ⟨o, a1, a2⟩ := g4 ρ.length 0 j rfl i z
    rcases a2 with ⟨b1, b2, b3⟩ | ⟨b1, b2, b3⟩
    · obtain ⟨v, c1, c2⟩ := le1 j i b2
      exact ⟨v, o, c1, a1, rootsOf_some.mpr ⟨by rw [List.getElem?_append_left (by omega)]; exact c2, by rw [List.getElem?_append_left b1]; exact b3⟩, fun _ => c2⟩
    · have hj : j < vs.length := by
        have := (List.getElem?_eq_some_iff.mp z).1
        omega
      refine ⟨vs[j], o, List.getElem?_eq_getElem hj, a1, rootsOf_some.mpr ⟨?_, ?_⟩, fun y => by omega⟩
      · rw [List.getElem?_append_right (by omega), show i - σ.length = j by omega]
        simp [List.getElem?_eq_getElem hj]
      · rw [List.getElem?_append_right (by omega), show i - ρ.length = j by omega]
        exact b3
  refine ⟨G, _, as, r, as', s1.enter nd (by omega) (by omega) (fun j i z => ?_), e3, e4, fun v H2 G2 L2 s2 f2 => ?_⟩
  · obtain ⟨v, o, c1, c2, c3, _⟩ := key j i z
    exact ⟨v, o, c1, c2, c3⟩
  · obtain ⟨L3, s3, f3⟩ := s1.leave l1 nd (by omega) (by omega) (fun j i z y => by
      obtain ⟨v, o, c1, _, _, c4⟩ := key j i z
      exact ⟨v, c1, c4 y⟩) s2 f2
    rw [setL_back ks as' ρ 0 rfl (by omega)] at s3
    exact q v H2 G2 L3 s3 f3
/-- a call whose arguments are all frozen -/
theorem call_fz {fn : Fn} {vs : List V} {ds : List D} {r : O} {as' : Rho} {Q : VK} {E : XK} (s : SRep K cl σ H G L ρ) (rv : RepVs K cl G vs ds) (e3 : fn (ds.map .fz) = some (r, as')) (e4 : as'.length = ds.length)
    (q : ∀ v H' G' L', SRep K cl (σ ++ [some v]) H' G' L' (ρ ++ [some r]) → Frame H G L H' G' L' → Q v H') : spOf K cl fn vs H Q E := by
  refine call_core (lendOk_none ds) (s.pushes ds vs rv) s.len (fun k i h => ?_) (gather_fz ds ρ) e3 (by simpa using e4) fun v H' G' L' s' f' => q v H' G' L' (by rw [setL_none] at s'; exact s') f'
  simp at h
end
section
variable {X : Cx} {cl : Cl} {e a b c o tg ix : Expr} {es rest : List Expr} {pos pos' apos : Pos} {st : Stmt} {sts : List Stmt} {pr : List Nat}
/-- a call with frozen arguments -/
def oCallD (fn : Fn) (f : MDs) : MO := fun ρ => match f ρ with
  | some (ds, ρ1) => (match fn (ds.map .fz) with
    | some (r, as') => (match decide (as'.length = ds.length) with
      | true => some (r, ρ1)
      | false => none)
    | none => none)
  | none => none
theorem so_callD {x : Str} {p : Pos} {fn : Fn} {f : MDs} (C : Callee X.prog X.w X.K X.mg X.base X.A cl x fn) (ha : SDs X cl (e :: es) f) (hg : Gl X x := by rfl) (hdb : (x == ("__debug__" : Str)) = false := by decide)
    (he : starEach (e :: es) X.env = (false, eval e X.env) :: starEach es X.env := by rfl) (hpl : (backTo pos (starEach es X.env)).any (·.1) = false := by rfl) : SO X cl (.Call (.Name x p) (e :: es) [] pos) (oCallD fn f) := by
  obtain ⟨a, fd, ps, k, F, hr, hm, kp, hb⟩ := C.ex
  refine PE.weak (pe_call F hr hg hm kp hb .nil pass0 ha hdb he hpl) fun σ H Q ⟨G, L, ρ, o, ρ', hs, hg, q⟩ => ?_
  unfold oCallD at hg
  split at hg
  · rename_i ds ρ1 e1
    split at hg
    · rename_i r as' e2
      split at hg
      · rename_i z
        cases hg
        refine ⟨G, L, ρ, ds, _, hs, e1, fun vs H1 G1 L1 s1 r1 f1 => ?_⟩
        show spOf X.K cl fn (vs ++ []) H1 Q E0
        rw [List.append_nil]
        exact call_fz s1 r1 e2 (of_decide_eq_true z) fun v H' G' L' s' f' => q v H' G' L' s' (f1.trans f')
      · cases hg
    · cases hg
  · cases hg
/-- a method of a frozen instance, with frozen arguments -/
structure CalleeM (P : Program) (w : World) (K : PySem.W.Frag) (mg : Str → Option Value) (base : Heap) (A : Around) (cl : Cl) (c : Nat) (m : Str) (fn : Fn) : Prop where
  ex : ∃ f fd ps k, FnOk P w K mg base CX0 k f fd ps (spOf K cl fn) ∧ Room k A ∧ Cls K (cl c) ∧ Meth K (cl c) m f ∧ Binds K fd ps []
def oMethD (c : Nat) (m : Str) (fn : Fn) (g : MD) (f : MDs) : MO := fun ρ => match g ρ with
  | some (.obj c' ns ds0, ρ0) => (match f ρ0 with
    | some (ds, ρ1) => (match fn ((D.obj c' ns ds0 :: ds).map .fz) with
      | some (r, as') => (match decide (as'.length = ds.length + 1) && (decide (c' = c) && !ns.contains m) with
        | true => some (r, ρ1)
        | false => none)
      | none => none)
    | none => none)
  | _ => none
theorem lookup_not : ∀ (fs : List (Str × V)) (m : Str), (fs.map (·.1)).contains m = false → fs.lookup m = none
  | [], _, _ => rfl
  | (k, v) :: fs, m, h => by
    simp only [List.map_cons, List.contains_cons, Bool.or_eq_false_iff] at h
    simp only [List.lookup]
    rw [h.1]
    exact lookup_not fs m h.2
theorem so_methD {c : Nat} {m : Str} {fn : Fn} {g : MD} {f : MDs} {pl : Sem Bool} (C : CalleeM X.prog X.w X.K X.mg X.base X.A cl c m fn) (ho : SD X cl o g) (ha : SDs X cl (e :: es) f)
    (hst : starEach (e :: es) X.env = (false, eval e X.env) :: starEach es X.env := by rfl) (hpl : (backTo pos (starEach es X.env)).any (·.1) = false := by rfl)
    (ht : eval (.Call (.Attribute o m apos) (e :: es) [] pos) X.env = (do
      let ov ← eval o X.env
      standAt apos.atName
      let (f, first) ← holding [ov] (getMethod ov m pl)
      callWith pos f first (backTo pos (starEach (e :: es) X.env)) (backToKw pos (keywordEach [] X.env))) := by rfl) : SO X cl (.Call (.Attribute o m apos) (e :: es) [] pos) (oMethD c m fn g f) := by
  obtain ⟨a, fd, ps, k, F, hr, hc, hm, hb⟩ := C.ex
  refine PE.weak (pe_meth ho hc hm F hr hb .nil pass0 ha hst hpl ht) fun σ H Q ⟨G, L, ρ, o, ρ', hs, hg, q⟩ => ?_
  unfold oMethD at hg
  split at hg
  · rename_i c' ns ds0 ρ0 e0
    split at hg
    · rename_i ds ρ1 e1
      split at hg
      · rename_i r as' e2
        split at hg
        · rename_i z
          cases hg
          obtain ⟨z1, z2⟩ := Bool.and_eq_true_iff.mp z
          obtain ⟨z2, z3⟩ := Bool.and_eq_true_iff.mp z2
          have z2 := of_decide_eq_true z2
          subst z2
          refine ⟨G, L, ρ, _, ρ0, hs, e0, fun v0 H0 G0 L0 s0 r0 f0 => ?_⟩
          obtain ⟨p, dx, fs, rfl, hp, hn, rr⟩ := id r0
          refine ⟨p, dx, fs, rfl, s0.le _ _ hp, lookup_not fs m (by rw [hn]; simpa using z3), G0, L0, ρ0, ds, _, s0, e1, fun vs H1 G1 L1 s1 r1 f1 => ?_⟩
          show spOf X.K cl fn (.ref p :: (vs ++ [])) H1 Q E0
          rw [List.append_nil]
          exact call_fz (ds := D.obj c' ns ds0 :: ds) s1 ⟨_, vs, rfl, r0.mono f1.le, r1⟩ e2 (of_decide_eq_true z1) fun v H' G' L' s' f' => q v H' G' L' s' ((f0.trans f1).trans f')
        · cases hg
      · cases hg
    · cases hg
  · cases hg
/-! ### fields stored -/
def hasS (ns : List Str) (f : Str) : Bool := ns.any fun g => decide (g = f)
def posS : List Str → Str → Nat
  | [], _ => 0
  | g :: gs, f => if g = f then 0 else posS gs f + 1
theorem putF_new {f : Str} {v : V} : ∀ (fs : List (Str × V)), hasS (fs.map (·.1)) f = false → putF f v fs = fs ++ [(f, v)]
  | [], _ => rfl
  | (g, x) :: r, h => by
    simp only [hasS, List.map_cons, List.any_cons, Bool.or_eq_false_iff, decide_eq_false_iff_not] at h
    unfold putF
    rw [if_neg h.1, putF_new r h.2]
    rfl
theorem putF_old {f : Str} {v : V} : ∀ (fs : List (Str × V)), hasS (fs.map (·.1)) f = true → (putF f v fs).map (·.1) = fs.map (·.1) ∧ (putF f v fs).map (·.2) = (fs.map (·.2)).set (posS (fs.map (·.1)) f) v
  | [], h => by simp [hasS] at h
  | (g, x) :: r, h => by
    unfold putF
    by_cases e : g = f
    · subst e
      simp [posS]
    · rw [if_neg e]
      have h2 : hasS (r.map (·.1)) f = true := by
        simp only [hasS, List.map_cons, List.any_cons, Bool.or_eq_true, decide_eq_true_eq] at h
        rcases h with h | h
        · exact absurd h e
        · exact h
      obtain ⟨a1, a2⟩ := putF_old (v := v) r h2
      simp [posS, e, a1, a2]
def setFld (ns : List Str) (os : List O) (f : Str) (o : O) : List Str × List O := match hasS ns f with
  | true => (ns, os.set (posS ns f) o)
  | false => (ns ++ [f], os ++ [o])
theorem SRep.setFld {K : PySem.W.Frag} {G H : Hp} {L : Lab} {σ : St} {ρ : Rho} {v : V} {o : O} (h : SRep K cl (σ ++ [some v]) H G L (ρ ++ [some o])) {i c : Nat} {ns : List Str} {os : List O} {f : Str} (e : ρ[i]? = some (some (.obj c ns os))) :
    ∃ a dx fs, σ[i]? = some (some (.ref a)) ∧ H a = some (.ins (cl c) dx fs) ∧ fs.length = ns.length ∧ ∃ L', SRep K cl σ (upd H a (.ins (cl c) dx (putF f v fs))) G L' (ρ.set i (some (.obj c (PI.setFld ns os f o).1 (PI.setFld ns os f o).2))) ∧
      Frame H G L (upd H a (.ins (cl c) dx (putF f v fs))) G L' := by
  have hl : σ.length = ρ.length := by simpa using h.len
  have hi := (List.getElem?_eq_some_iff.mp e).1
  obtain ⟨a, dx, fs, e1, la, ha, hn, r⟩ := h.obj_at (i := i) (by rw [List.getElem?_append_left hi]; exact e)
  rw [List.getElem?_append_left (by omega)] at e1
  have rt := h.rep.rep ρ.length v o (rootsOf_some.mpr ⟨by rw [List.getElem?_append_right (by omega), show ρ.length - σ.length = 0 by omega]; rfl, by rw [List.getElem?_append_right (by omega), Nat.sub_self]; rfl⟩)
  have hne : ∀ b q, L b = some (i :: q) → q ≠ [] → b ≠ a := fun b q l n z => by rw [z, la] at l; cases l; exact n rfl
  have fl : fs.length = ns.length := by rw [← hn]; simp
  have ol : os.length = ns.length := by have := RepOs.length r; simp at this; omega
  let k := if hasS ns f = true then posS ns f else os.length
  have tmp : RepO K cl G (upd H a (.ins (cl c) dx (putF f v fs))) (graftL L ρ.length i k) ([i] ++ [k]) v o := by
    have := RepO.move (L := L) (H := H) (L' := graftL L ρ.length i k) (H' := upd H a (.ins (cl c) dx (putF f v fs))) (G' := G) (p := [ρ.length]) (p' := [i] ++ [k]) Le.refl (fun b q l => ⟨graft_tmp l, fun x hx => by
      have : b ≠ a := fun z => by rw [z, la] at l; cases l; omega
      rw [upd_ne this]; exact hx⟩) o v [] (by simpa using rt)
    simpa using this
  have rnew : RepOs K cl G (upd H a (.ins (cl c) dx (putF f v fs))) (graftL L ρ.length i k) [i] 0 ((putF f v fs).map (·.2)) (PI.setFld ns os f o).2 ∧ (putF f v fs).map (·.1) = (PI.setFld ns os f o).1 := by
    unfold PI.setFld
    cases q : hasS ns f with
    | true =>
      obtain ⟨p1, p2⟩ := putF_old (v := v) fs (by rw [hn]; exact q)
      rw [hn] at p1 p2
      refine ⟨?_, p1⟩
      rw [p2]
      have ek : k = posS ns f := if_pos q
      rw [← ek]
      exact RepOs.kid (p := [i]) (j0 := k) Le.refl (fun b j r n l => ⟨graft_kid l (by omega) n, fun x hx => by rw [upd_ne (hne b _ l (by simp))]; exact hx⟩) tmp os _ 0 k (by omega) r
    | false =>
      have p1 := putF_new (v := v) fs (by rw [hn]; exact q)
      rw [p1]
      refine ⟨?_, by simp [hn]⟩
      rw [List.map_append]
      have ek : k = os.length := if_neg (by rw [q]; exact Bool.false_ne_true)
      have : ∀ (xs : List O) (ws : List V) (i0 : Nat), i0 + xs.length = os.length → RepOs K cl G H L [i] i0 ws xs → RepOs K cl G (upd H a (.ins (cl c) dx (fs ++ [(f, v)]))) (graftL L ρ.length i k) [i] i0 ws xs := by
        intro xs
        induction xs with
        | nil => intro ws i0 _ r; exact r
        | cons x xs ih =>
          intro ws i0 hn ⟨w, ws', e, r, rs⟩
          simp only [List.length_cons] at hn
          refine ⟨w, ws', e, ?_, ih ws' (i0 + 1) (by omega) rs⟩
          have := RepO.move (L := L) (H := H) (L' := graftL L ρ.length i k) (H' := upd H a (.ins (cl c) dx (fs ++ [(f, v)]))) (G' := G) (p := [i] ++ [i0]) (p' := [i] ++ [i0]) Le.refl (fun b q l => ⟨graft_kid l (by omega) (by omega), fun y hy => by rw [upd_ne (hne b _ l (by simp))]; exact hy⟩) x w [] (by simpa using r)
          simpa using this
      refine RepOs.snoc os _ 0 (this os _ 0 (by omega) r) ?_
      rw [p1] at tmp
      rw [show 0 + os.length = k by omega]
      exact tmp
  obtain ⟨s, f'⟩ := h.graft (ho := .ins (cl c) dx (putF f v fs)) (t := .obj c (PI.setFld ns os f o).1 (PI.setFld ns os f o).2) (fun xs z => by cases z) hi la e1 ⟨_, e⟩ ⟨a, dx, _, rfl, graft_root la (by omega), upd_same, rnew.2, rnew.1⟩
  exact ⟨a, dx, fs, e1, ha, fl, _, s, f'⟩
/-- x.f = e, x a name of an owned instance -/
def sFldO (ok : Nat → Bool) (i : Nat) (f : Str) (g : MO) : MS := fun ρ => match g ρ with
  | some (o, ρ1) => (match ρ1[i]? with
    | some (some (.obj c ns os)) => (match ok c && decide (ns.length < 1000) with
      | true => some (.nx, ρ1.set i (some (.obj c (setFld ns os f o).1 (setFld ns os f o).2)))
      | false => none)
    | _ => none)
  | none => none
theorem ss_fld (i : Nat) {x f : Str} {xp : Pos} {g : MO} {ok : Nat → Bool} (hok : ∀ c, ok c = true → Cls X.K (cl c) ∧ NoAttr X.K (cl c) f) (he : SO X cl e g) (hx : PE X (.Name x xp) (tVar i)) (hs : swapsWith e (some (.Attribute (.Name x xp) f pos')) pos.line X.env = pure false := by rfl) :
    SS X cl pr (.Assign [.Attribute (.Name x xp) f pos'] e pos) (sFldO ok i f g) := PS.weak (ps_fld hx he hs) fun D σ H ⟨G, L, ρ, fl, ρ', hs, hg, q⟩ => by
  unfold sFldO at hg
  split at hg
  · rename_i o ρ1 e1
    split at hg
    · rename_i c ns os e2
      split at hg
      · rename_i z
        cases hg
        obtain ⟨z1, z2⟩ := Bool.and_eq_true_iff.mp z
        obtain ⟨c1, c2⟩ := hok _ z1
        refine ⟨G, L, ρ, o, ρ1, hs, e1, fun v H1 G1 L1 s1 f1 => ?_⟩
        obtain ⟨p, dx, fs, d1, d2, d3, L4, s4, f4⟩ := SRep.setFld (f := f) s1 e2
        exact ⟨_, d1, p, _, dx, fs, rfl, d2, c1, c2, by rw [d3]; exact of_decide_eq_true z2, q σ _ G1 L4 s4 (f1.trans f4) Kp.refl⟩
      · cases hg
    · cases hg
  · cases hg
/-! ### instances made -/
structure Maker (P : Program) (w : World) (K : PySem.W.Frag) (mg : Str → Option Value) (base : Heap) (A : Around) (cl : Cl) (c : Nat) (x : Str) (fn : Fn) : Prop where
  ex : ∃ f fd ps k, FnOk P w K mg base CX0 k f fd ps (spOf K cl fn) ∧ Room (k + 1) A ∧ Mk K (cl c) f ∧ mg x = some (.ref (cl c)) ∧ Binds K fd ps []
def oNewD (c : Nat) (fn : Fn) (f : MDs) : MO := fun ρ => match f ρ with
  | some (ds, ρ1) => (match fn (.obj c [] [] :: ds.map .fz) with
    | some (.fz .non, some t :: as') => (match decide (as'.length = ds.length) with
      | true => some (t, ρ1)
      | false => none)
    | _ => none)
  | none => none
theorem setL_app {n : Nat} : ∀ (ds : List D) (os ρ : Rho) (o : Option O), setL (some ρ.length :: ds.map fun _ => none) (o :: os) (ρ ++ [some (.obj n [] [])]) = ρ ++ [o] := fun ds os ρ o => by
  unfold setL
  rw [setL_none]
  simp
theorem so_newD {c : Nat} {x : Str} {p : Pos} {fn : Fn} {f : MDs} (M : Maker X.prog X.w X.K X.mg X.base X.A cl c x fn) (ha : SDs X cl (e :: es) f) (hg : Gl X x := by rfl) (hdb : (x == ("__debug__" : Str)) = false := by decide)
    (he : starEach (e :: es) X.env = (false, eval e X.env) :: starEach es X.env := by rfl) (hpl : (backTo pos (starEach es X.env)).any (·.1) = false := by rfl) : SO X cl (.Call (.Name x p) (e :: es) [] pos) (oNewD c fn f) := by
  obtain ⟨a, fd, ps, k, F, hr, hm, hx, hb⟩ := M.ex
  refine PE.weak (pe_make hm F hr hg hx hb .nil pass0 ha hdb he hpl) fun σ H Q ⟨G, L, ρ, o, ρ', hs, hg, q⟩ => ?_
  unfold oNewD at hg
  split at hg
  · rename_i ds ρ1 e1
    split at hg
    · rename_i t as' e2
      split at hg
      · rename_i z
        cases hg
        have z := of_decide_eq_true z
        refine ⟨G, L, ρ, ds, _, hs, e1, fun vs H1 G1 L1 s1 r1 f1 => ?_⟩
        intro y dy hy hdy hne
        show spOf X.K cl fn (.ref y :: (vs ++ [])) _ _ E0
        rw [List.append_nil]
        have g0 : ∀ p, H1 p = none → G1 p = none ∧ L1 p = none := fun p hp => by
          refine ⟨?_, ?_⟩
          · cases w : G1 p with
            | none => rfl
            | some x =>
              have := s1.le p x w
              rw [hp] at this
              cases this
          · cases w : L1 p with
            | none => rfl
            | some x =>
              obtain ⟨_, u, hu⟩ := s1.rep.sep p x w
              rw [hp] at hu
              cases hu
        have s2 := s1.other (p := dy) (o := .own y) (g0 dy hdy).2 (g0 dy hdy).1 (fun xs e => by cases e)
        have hy2 : upd H1 dy (.own y) y = none := by rw [upd_ne (Ne.symm hne)]; exact hy
        obtain ⟨s3, f3⟩ := s2.pushNew hy2 (ho := .ins (cl c) dy []) (t := .obj c [] []) (fun xs e => by cases e) ⟨y, dy, [], rfl, by unfold updL; rw [if_pos rfl], upd_same, rfl, rfl⟩
        -- the instance is a slot of its own; its argument stands beside without a tree
        have s4 : SRep X.K cl ((σ ++ [some (.ref y)]) ++ [some (.ref y)]) (upd (upd H1 dy (.own y)) y (.ins (cl c) dy [])) G1 (updL L1 y [ρ'.length]) ((ρ' ++ [some (.obj c [] [])]) ++ [none]) := by
          refine ⟨by simp [s1.len], fun j o' e' => ?_, ?_⟩
          · rw [get_app] at e' ⊢
            rw [s3.len]
            split at e'
            · rename_i z
              rw [if_pos z]
              exact s3.all j o' e'
            · split at e' <;> cases e'
          · have : rootsOf ((σ ++ [some (.ref y)]) ++ [some (.ref y)]) ((ρ' ++ [some (.obj c [] [])]) ++ [none]) = rootsOf (σ ++ [some (.ref y)]) (ρ' ++ [some (.obj c [] [])]) := by
              funext j
              rw [rootsOf_app s3.len]
              split
              · rfl
              · rename_i z
                have e9 : rootsOf (σ ++ [some (.ref y)]) (ρ' ++ [some (.obj c [] [])]) j = none := rootsOf_ge (by omega)
                rw [e9]
                cases q : j - (ρ' ++ [some (O.obj c [] [])]).length with
                | zero => rfl
                | succ n => rfl
            rw [this]
            exact s3.rep
        have s5 := s4.pushes ds vs r1
        have f13 : Frame H1 G1 L1 (upd (upd H1 dy (.own y)) y (.ins (cl c) dy [])) G1 (updL L1 y [ρ'.length]) := ⟨fun b x hb hl => by
          have h1 : b ≠ y := fun z => by rw [z, hy] at hb; cases hb
          have h2 : b ≠ dy := fun z => by rw [z, hdy] at hb; cases hb
          refine ⟨by rw [upd_ne h1, upd_ne h2]; exact hb, by unfold updL; rw [if_neg h1]; exact hl, id⟩, Le.refl⟩
        refine call_core (σ := σ ++ [some (.ref y)]) (ρ := ρ' ++ [some (.obj c [] [])]) (ω := none :: ds.map fun d => some (.fz d)) (ks := some ρ'.length :: ds.map fun _ => none) (vs := .ref y :: vs) (as := .obj c [] [] :: ds.map .fz) (r := .fz .non) (as' := some o :: as')
          (by simp [lendOk, lendOk_none ds]) (by simpa using s5) s3.len (fun k i h => ?_) (by simp [gather, gather_fz]) e2 (by simp [z]) fun v H2 G2 L2 s6 f6 => ?_
        · cases k with
          | zero =>
            simp at h
            subst h
            exact ⟨.ref y, rfl, by rw [get_app, s1.len]; simp⟩
          | succ k => simp at h
        · rw [setL_app] at s6
          have hv : v = .non := by
            have := s6.rep.rep (ρ' ++ [some o]).length v (.fz .non) (rootsOf_some.mpr ⟨by rw [get_app]; simp [s1.len], by rw [get_app]; simp⟩)
            exact this
          obtain ⟨G3, L3, s7, _, f7⟩ := s6.pop
          exact ⟨hv, q _ H2 G3 L3 s7 (((f1.trans f13).trans f6).trans f7)⟩
      · cases hg
    · cases hg
  · cases hg
end
end PI
set_option Elab.async false
set_option linter.all false
set_option maxRecDepth 100000
set_option maxHeartbeats 1000000
set_option autoImplicit false
/-! PI13: dict displays; defs. -/
namespace PI
open PySem PySem.Spec L2
section
variable {X : Cx} {cl : Cl} {e a b c o tg ix : Expr} {es rest : List Expr} {pos pos' apos : Pos}
def SPs (X : Cx) (cl : Cl) (pos : Pos) (keys : List (Option Expr)) (values : List Expr) (prs : List (MD × MD)) : Prop := PPs X pos keys values (prs.map fun p => (tD X cl p.1, tD X cl p.2))
theorem sps_nil : SPs X cl pos [] [] [] := pps_nil
theorem sps_cons {k v : Expr} {ks : List (Option Expr)} {vs : List Expr} {gk gv : MD} {prs : List (MD × MD)} (hk : SD X cl k gk) (hv : SD X cl v gv) (hr : SPs X cl pos ks vs prs) : SPs X cl pos (some k :: ks) (v :: vs) ((gk, gv) :: prs) := pps_cons hk hv hr
def evPairs : List (MD × MD) → Rho → Option (List Key × List D × Rho)
  | [], ρ => some ([], [], ρ)
  | (gk, gv) :: prs, ρ => (match gk ρ with
    | some (k, ρ1) => (match gv ρ1 with
      | some (d, ρ2) => (match keyD k, evPairs prs ρ2 with
        | some j, some (ks, ds, ρ3) => some (j :: ks, d :: ds, ρ3)
        | _, _ => none)
      | none => none)
    | none => none)
theorem pairs_read : ∀ (prs : List (MD × MD)) {σ : St} {H G : Hp} {L : Lab} {ρ ρ' : Rho} {ks : List Key} {ds : List D} {Q : List (V × V) → Hp → Prop}, SRep X.K cl σ H G L ρ → evPairs prs ρ = some (ks, ds, ρ') →
    (∀ (kvs : List (Key × V)) (H' G' : Hp) (L' : Lab), SRep X.K cl σ H' G' L' ρ' → Frame H G L H' G' L' → kvs.map (·.1) = ks → RepVs X.K cl G' (kvs.map (·.2)) ds → Q (kvs.map fun kv => (kV kv.1, kv.2)) H') → tPairs (prs.map fun p => (tD X cl p.1, tD X cl p.2)) σ H Q
  | [], σ, H, G, L, ρ, ρ', ks, ds, Q, s, e, q => by
    cases e
    exact q [] H G L s Frame.refl rfl rfl
  | (gk, gv) :: prs, σ, H, G, L, ρ, ρ', ks, ds, Q, s, e, q => by
    simp only [evPairs] at e
    split at e
    · rename_i k ρ1 e1
      split at e
      · rename_i d ρ2 e2
        split at e
        · rename_i j ks' ds' ρ3 e3 e4
          cases e
          refine ⟨G, L, ρ, k, ρ1, s, e1, fun kv H1 G1 L1 s1 r1 f1 => ⟨G1, L1, ρ1, d, ρ2, s1, e2, fun dv H2 G2 L2 s2 r2 f2 => ?_⟩⟩
          refine pairs_read prs s2 e4 fun kvs H3 G3 L3 s3 f3 hk hr => ?_
          have ek := keyD_ok e3 r1
          subst ek
          exact q ((j, dv) :: kvs) H3 G3 L3 s3 ((f1.trans f2).trans f3) (by simp [hk]) ⟨dv, _, rfl, r2.mono f3.le, hr⟩
        · cases e
      · cases e
    · cases e
def nodupK : List Key → Bool
  | [] => true
  | k :: ks => !hasK ks k && nodupK ks
theorem putK_fresh {kvs : List (Key × V)} {k : Key} {v : V} (h : hasK (kvs.map (·.1)) k = false) : putK kvs k v = kvs ++ [(k, v)] := by
  have any : (kvs.any fun kv => decide (kv.1 = k)) = false := by
    rw [← h]
    unfold hasK
    rw [List.any_map]
    rfl
  unfold putK
  rw [any, if_neg Bool.false_ne_true]
theorem merge_app : ∀ (more kvs : List (Key × V)), nodupK (more.map (·.1)) = true → (∀ k ∈ more.map (·.1), hasK (kvs.map (·.1)) k = false) → mergeK kvs more = kvs ++ more
  | [], kvs, _, _ => by simp [mergeK]
  | (k, v) :: more, kvs, h, h2 => by
    have h3 : hasK (more.map (·.1)) k = false ∧ nodupK (more.map (·.1)) = true := by simpa [nodupK] using h
    have e1 : mergeK kvs ((k, v) :: more) = mergeK (putK kvs k v) more := rfl
    rw [e1, putK_fresh (h2 k (by simp))]
    rw [merge_app more (kvs ++ [(k, v)]) h3.2 fun k' hk' => ?_]
    · simp
    · unfold hasK
      rw [List.map_append, List.any_append]
      have := h2 k' (by simp at hk' ⊢; exact .inr hk')
      unfold hasK at this
      rw [this, Bool.false_or]
      simp only [List.map_cons, List.map_nil, List.any_cons, List.any_nil, Bool.or_false, decide_eq_false_iff_not]
      rintro rfl
      have := h3.1
      unfold hasK at this
      rw [List.any_eq_false] at this
      exact absurd (decide_eq_true rfl) (this k hk')
def oDisp (prs : List (MD × MD)) : MO := fun ρ => match evPairs prs ρ with
  | some (ks, ds, ρ1) => (match nodupK ks && decide (ds.length ≤ 15) with
    | true => some (.dct ks (ds.map .fz), ρ1)
    | false => none)
  | none => none
theorem so_disp {keys : List (Option Expr)} {values : List Expr} {prs : List (MD × MD)} (h : SPs X cl pos keys values prs) (hall : keys.all (·.isSome) = true := by rfl) (hl : keys.length = values.length := by rfl) (h0 : keys ≠ [] := by intro z; cases z) (h15 : keys.length ≤ 15 := by decide) :
    SO X cl (.Dict keys values pos) (oDisp prs) := PE.weak (pe_disp h hall hl h0 h15) fun σ H Q ⟨G, L, ρ, o, ρ', hs, hg, q⟩ => by
  unfold oDisp at hg
  split at hg
  · rename_i ks ds ρ1 e1
    split at hg
    · rename_i z
      cases hg
      obtain ⟨z1, z2⟩ := Bool.and_eq_true_iff.mp z
      have z2 := of_decide_eq_true z2
      intro p hp
      have gp : G p = none := by
        cases w : G p with
        | none => rfl
        | some x =>
          have := hs.le p x w
          rw [hp] at this
          cases this
      have lp : L p = none := by
        cases w : L p with
        | none => rfl
        | some x =>
          obtain ⟨_, u, hu⟩ := hs.rep.sep p x w
          rw [hp] at hu
          cases hu
      have s1 := hs.other (p := p) (o := .dK []) lp gp (fun xs e => by cases e)
      refine pairs_read prs s1 e1 fun kvs H2 G2 L2 s2 f2 hk hr => ?_
      obtain ⟨d1, d2, d3⟩ := f2.keep p _ upd_same lp
      have gp2 := d3 gp
      have hn : kvs.length = ds.length := by have := hr.length; simpa using this
      refine ⟨d1, kvs, rfl, by omega, ?_⟩
      rw [merge_app kvs [] (by rw [hk]; exact z1) (fun k _ => rfl), List.nil_append]
      have ne : ∀ b x, H b = some x → b ≠ p := fun b x e z => by rw [z, hp] at e; cases e
      -- p becomes a root
      refine q (.ref p) _ G2 (updL L2 p [ρ'.length]) ⟨by simp [s2.len], fun i o e => ?_, ⟨fun b x hb => ?_, fun b t l => ?_, fun b xs e => ?_, fun i v o e => ?_, fun b t l => ?_⟩⟩ ⟨fun b x e l => ?_, ?_⟩
      · rw [get_app] at e ⊢
        rw [s2.len]
        split at e
        · rename_i z
          rw [if_pos z]
          exact s2.all i o e
        · rename_i z
          rw [if_neg z]
          split at e
          · rename_i z2
            rw [if_pos z2]
            exact ⟨_, rfl⟩
          · cases e
      · rw [upd_ne (fun z => by rw [z, gp2] at hb; cases hb)]
        exact s2.le b x hb
      · unfold updL at l
        split at l
        · rename_i z
          subst z
          exact ⟨gp2, _, upd_same⟩
        · rename_i z
          obtain ⟨g, x, hx⟩ := s2.rep.sep b t l
          exact ⟨g, x, by rw [upd_ne z]; exact hx⟩
      · by_cases z : b = p
        · subst z
          rw [upd_same] at e
          cases e
        · rw [upd_ne z] at e
          exact s2.rep.imm b xs e
      · rw [rootsOf_app s2.len] at e
        split at e
        · have := RepO.move (L := L2) (H := H2) (L' := updL L2 p [ρ'.length]) (H' := upd H2 p (.dK kvs)) (G' := G2) (p := [i]) (p' := [i]) Le.refl (fun a q l => by
            have : a ≠ p := fun z => by rw [z, d2] at l; cases l
            refine ⟨?_, fun x hx => by rw [upd_ne this]; exact hx⟩
            unfold updL
            rw [if_neg this]
            exact l) o v [] (by simpa using s2.rep.rep i v o e)
          simpa using this
        · rename_i z
          have : i = ρ'.length := by
            have e2 := (rootsOf_some.mp e).1
            have := (List.getElem?_eq_some_iff.mp e2).1
            have := s2.len
            simp at *
            omega
          subst this
          simp [rootsOf] at e
          obtain ⟨e1, e2⟩ := e
          subst e1 e2
          exact ⟨p, kvs, rfl, by unfold updL; rw [if_pos rfl], upd_same, hk, repOs_fz ds _ _ 0 hr⟩
      · unfold updL at l
        split at l
        · cases l
          refine ⟨_, _, rfl, ?_⟩
          rw [rootsOf_app s2.len, if_neg (by omega)]
          simp [rootsOf]
        · obtain ⟨i, r', e1, e2⟩ := s2.rep.own b t l
          refine ⟨i, r', e1, ?_⟩
          obtain ⟨⟨v1, o⟩, e3⟩ := Option.isSome_iff_exists.mp e2
          rw [rootsOf_app s2.len, if_pos (List.getElem?_eq_some_iff.mp (rootsOf_some.mp e3).2).1, e3]
          rfl
      · have n := ne b x e
        obtain ⟨a1, a2, a3⟩ := f2.keep b x (by rw [upd_ne n]; exact e) l
        refine ⟨by rw [upd_ne n]; exact a1, ?_, a3⟩
        unfold updL
        rw [if_neg n]
        exact a2
      · exact f2.le
    · cases hg
  · cases hg
end

/-! ### defs -/
def finA (pr : List Nat) : Nat → List O → Rho → Rho
  | j, a :: as, r :: ρ => (match pr.contains j with
    | true => r
    | false => some a) :: finA pr (j + 1) as ρ
  | _, _, _ => []
def argsOk (pr : List Nat) : Nat → List O → Bool
  | _, [] => true
  | j, .fz _ :: as => argsOk pr (j + 1) as
  | j, _ :: as => pr.contains j && argsOk pr (j + 1) as
def runDef (np n : Nat) (pr : List Nat) (body : MS) : Fn := fun as => match decide (as.length = np) && argsOk pr 0 as with
  | true => (match body (as.map some ++ List.replicate (n - np) none) with
    | some (.nx, ρ') => (match decide (n ≤ ρ'.length) with
      | true => some (.fz .non, finA pr 0 as ρ')
      | false => none)
    | some (.rt o, ρ') => (match decide (n ≤ ρ'.length) with
      | true => some (o, finA pr 0 as ρ')
      | false => none)
    | _ => none)
  | false => none
theorem argsOk_at {pr : List Nat} : ∀ (as : List O) (j i : Nat) (o : O), argsOk pr j as = true → as[i]? = some o → pr.contains (j + i) = false → ∃ d, o = .fz d
  | [], _, _, _, _, e, _ => by simp at e
  | .fz d :: as, j, 0, o, _, e, _ => by simp at e; exact ⟨d, e.symm⟩
  | .fz d :: as, j, i + 1, o, h, e, c => argsOk_at as (j + 1) i o (by simpa [argsOk] using h) (by simpa using e) (by rw [← c]; congr 1; omega)
  | .lst x :: as, j, 0, o, h, e, c => by simp [argsOk] at h; simp at c; exact absurd h.1 c
  | .dct _ _ :: as, j, 0, o, h, e, c => by simp [argsOk] at h; simp at c; exact absurd h.1 c
  | .obj _ _ _ :: as, j, 0, o, h, e, c => by simp [argsOk] at h; simp at c; exact absurd h.1 c
  | .lst x :: as, j, i + 1, o, h, e, c => argsOk_at as (j + 1) i o (by simp [argsOk] at h; exact h.2) (by simpa using e) (by rw [← c]; congr 1; omega)
  | .dct _ _ :: as, j, i + 1, o, h, e, c => argsOk_at as (j + 1) i o (by simp [argsOk] at h; exact h.2) (by simpa using e) (by rw [← c]; congr 1; omega)
  | .obj _ _ _ :: as, j, i + 1, o, h, e, c => argsOk_at as (j + 1) i o (by simp [argsOk] at h; exact h.2) (by simpa using e) (by rw [← c]; congr 1; omega)
theorem finA_length {pr : List Nat} : ∀ (as : List O) (ρ : Rho) (j : Nat), as.length ≤ ρ.length → (finA pr j as ρ).length = as.length
  | [], _, _, _ => by simp [finA]
  | a :: as, [], _, h => by simp at h
  | a :: as, r :: ρ, j, h => by simp [finA, finA_length as ρ (j + 1) (by simpa using h)]
theorem finA_at {pr : List Nat} : ∀ (as : List O) (ρ : Rho) (j i : Nat), i < as.length → as.length ≤ ρ.length → (finA pr j as ρ)[i]? = if pr.contains (j + i) = true then ρ[i]? else (as[i]?).map some
  | [], _, _, _, h, _ => by simp at h
  | a :: as, [], _, _, _, h => by simp at h
  | a :: as, r :: ρ, j, 0, _, _ => by
    simp only [finA]
    cases q : pr.contains (j + 0) with
    | true =>
      simp
    | false =>
      simp
  | a :: as, r :: ρ, j, i + 1, h, h2 => by
    simp only [finA]
    have := finA_at (pr := pr) as ρ (j + 1) i (by simpa using h) (by simpa using h2)
    rw [show j + (i + 1) = j + 1 + i by omega]
    simpa using this
section
variable {K : PySem.W.Frag} {cl : Cl} {G G0 H H0 : Hp} {L L0 : Lab} {σ : St} {ρ : Rho}
/-- a def's end: its arguments' trees, its answer -/
theorem SRep.finish {vs : List V} {as : List O} {pr : List Nat} {v : V} {o : O} (h0 : SRep K cl (vs.map some) H0 G0 L0 (as.map some)) (h : SRep K cl (σ ++ [some v]) H G L (ρ ++ [some o])) (hn : as.length ≤ ρ.length) (ok : argsOk pr 0 as = true)
    (kp : ∀ i ∈ pr, i < vs.length → σ[i]? = (vs.map some)[i]?) (hle : Le G0 G) : ∃ L', SRep K cl (vs.map some ++ [some v]) H G L' (finA pr 0 as ρ ++ [some o]) ∧ Frame H G L H G L' := by
  have hl : σ.length = ρ.length := by simpa using h.len
  have hv : vs.length = as.length := by simpa using h0.len
  have fl := finA_length (pr := pr) as ρ 0 hn
  let n := ρ.length
  let p := as.length
  let k : Nat → Option Nat := fun j => if j < p then (if pr.contains j = true then some j else none) else if j = p then some n else none
  let k' : Nat → Option Nat := fun i => if i = n then some p else if i < p then (if pr.contains i = true then some i else none) else none
  have hk : ∀ a b, k' a = some b ↔ k b = some a := fun a b => by
    simp only [k, k']
    constructor
    · intro e
      split at e
      · cases e
        rename_i z
        rw [if_neg (by omega), if_pos rfl, z]
      · split at e
        · split at e
          · cases e
            rename_i z1 z2 z3
            rw [if_pos z2, if_pos z3]
          · cases e
        · cases e
    · intro e
      split at e
      · split at e
        · cases e
          rename_i z1 z2
          rw [if_neg (by omega), if_pos z1, if_pos z2]
        · cases e
      · split at e
        · cases e
          rename_i z1 z2
          rw [if_pos rfl, z2]
        · cases e
  have at_ : ∀ j, j < p → (finA pr 0 as ρ)[j]? = if pr.contains j = true then ρ[j]? else (as[j]?).map some := fun j hj => by
    have := finA_at (pr := pr) as ρ 0 j hj hn
    rw [Nat.zero_add] at this
    exact this
  have sub := h.rep.sub k k' hk
  have kp2 : ∀ j, j < p → pr.contains j = true → (vs.map some)[j]? = σ[j]? := fun j hj hc => (kp j (by simpa using hc) (by omega)).symm
  refine ⟨subL L k', ⟨by simp; omega, fun i o' e => ?_, ⟨sub.ge, sub.sep, sub.imm, fun i w o' e => ?_, fun b q l => ?_⟩⟩, ⟨fun b x e l => ⟨e, by unfold subL; rw [l], id⟩, Le.refl⟩⟩
  · rw [get_app] at e ⊢
    simp only [List.length_map]
    rw [fl] at e
    rw [hv]
    split at e
    · rename_i z
      rw [if_pos z]
      have hi : i < vs.length := by omega
      exact ⟨vs[i], by rw [List.getElem?_map, List.getElem?_eq_getElem hi]; rfl⟩
    · rename_i z
      rw [if_neg z]
      split at e
      · rename_i z2
        rw [if_pos z2]
        exact ⟨v, rfl⟩
      · cases e
  · rw [rootsOf_app (by simp; omega), fl] at e
    split at e
    · rename_i z
      obtain ⟨e1, e2⟩ := rootsOf_some.mp e
      rw [at_ i z] at e2
      split at e2
      · rename_i z2
        rw [kp2 i z z2] at e1
        refine sub.rep i w o' ?_
        have ek : k i = some i := by simp only [k]; rw [if_pos z, if_pos z2]
        rw [ek]
        show rootsOf (σ ++ [some v]) (ρ ++ [some o]) i = _
        rw [rootsOf_app hl, if_pos (by omega)]
        exact rootsOf_some.mpr ⟨e1, e2⟩
      · rename_i z2
        have e3 : as[i]? = some o' := by
          cases q : as[i]? with
          | none => rw [q] at e2; cases e2
          | some y => rw [q] at e2; simp at e2; rw [e2]
        obtain ⟨d, rfl⟩ := argsOk_at as 0 i o' ok e3 (by rw [Nat.zero_add]; simpa using z2)
        have r := h0.rep.rep i w (.fz d) (rootsOf_some.mpr ⟨e1, by rw [List.getElem?_map, e3]; rfl⟩)
        exact RepV.mono hle d w r
    · rename_i z
      have : i = p := by
        have e2 := (rootsOf_some.mp e).1
        have := (List.getElem?_eq_some_iff.mp e2).1
        simp at this
        omega
      subst this
      have e : rootsOf [some v] [some o] (p - p) = some (w, o') := e
      rw [Nat.sub_self] at e
      have e : some (v, o) = some (w, o') := e
      cases e
      refine sub.rep p v o ?_
      have ek : k p = some n := by simp only [k]; rw [if_neg (Nat.lt_irrefl _)]; simp [p]
      rw [ek]
      show rootsOf (σ ++ [some v]) (ρ ++ [some o]) n = _
      rw [rootsOf_app hl, if_neg (Nat.lt_irrefl _)]
      simp [rootsOf, n]
  · obtain ⟨j, r, e1, e2⟩ := sub.own b q l
    refine ⟨j, r, e1, ?_⟩
    simp only [k] at e2
    rw [rootsOf_app (by simp; omega), fl]
    split at e2
    · rename_i z
      rw [if_pos z]
      split at e2
      · rename_i z2
        have e2 : (rootsOf (σ ++ [some v]) (ρ ++ [some o]) j).isSome = true := e2
        rw [rootsOf_app hl, if_pos (by omega)] at e2
        obtain ⟨⟨w, o'⟩, e3⟩ := Option.isSome_iff_exists.mp e2
        obtain ⟨e4, e5⟩ := rootsOf_some.mp e3
        rw [rootsOf_some.mpr ⟨by rw [kp2 j z z2]; exact e4, by rw [at_ j z, if_pos z2]; exact e5⟩]
        rfl
      · cases e2
    · rename_i z
      rw [if_neg z]
      split at e2
      · rename_i z2
        subst z2
        show (rootsOf [some v] [some o] (p - p)).isSome = true
        rw [Nat.sub_self]
        rfl
      · cases e2
end
/-- THE RULE for a def -/
theorem def_ok {P : Program} {w : World} {K : PySem.W.Frag} {mg : Str → Option Value} {base : Heap} {cl : Cl} {x qual : Str} {params : Arguments} {body : List Stmt} {scope : Scope} {f : Addr} {fd : FuncData} {N ps : List Str} {k np n : Nat} {pr : List Nat} {g : MS}
    (F : FunD K x qual params body scope [] [] f fd) (S : FnScope N ps scope) (h1 : ps.length = np) (h2 : N.length = n) (h3 : np ≤ n)
    (der : ∀ (cdv : Value) (A : Around) (outer : List PySem.Env) (s : Shared) (H : Hp) (E : XK), Room k (A.deeper (PyProof.Rows.envOfC qual scope s.heap.objs.size f cdv)) → SSs (cxOf CX0 P w K mg base N qual scope f cdv A outer s H E).nox cl pr body g) :
    FnOk P w K mg base CX0 (k + 1) f fd ps (spOf K cl (runDef np n pr g)) := by
  refine F.ok S (fun vs H Q E h => ?_) (fun cdv A outer s H vs Q E hr h => ⟨_, PSs.nox (der cdv A outer s H E hr), ?_⟩)
  · obtain ⟨G, L, as, r, as', hs, e, _⟩ := h
    unfold runDef at e
    split at e
    · rename_i z
      have z := of_decide_eq_true (Bool.and_eq_true_iff.mp z).1
      have := hs.len
      simp at this
      omega
    · cases e
  · obtain ⟨G, L, as, r, as', hs, e, el, q⟩ := h
    unfold runDef at e
    split at e
    · rename_i z
      obtain ⟨z1, z2⟩ := Bool.and_eq_true_iff.mp z
      have z1 := of_decide_eq_true z1
      have hv : vs.length = as.length := by simpa using hs.len
      -- the frame's slots
      have s0 : SRep K cl (L2.start N vs) H G L (as.map some ++ List.replicate (n - np) none) := by
        unfold L2.start
        refine ⟨by simp; omega, fun i o' e' => ?_, ?_⟩
        · by_cases hi : i < as.length
          · exact ⟨vs[i], by rw [List.getElem?_append_left (by simp; omega)]; simp [List.getElem?_eq_getElem (show i < vs.length by omega)]⟩
          · rw [List.getElem?_append_right (by simp; omega)] at e'
            have := List.mem_of_getElem? e'
            simp at this
        · have : rootsOf (vs.map some ++ List.replicate (N.length - vs.length) none) (as.map some ++ List.replicate (n - np) none) = rootsOf (vs.map some) (as.map some) := by
            funext i
            rw [rootsOf_app (by simp; omega)]
            split
            · rfl
            · rename_i y
              rw [rootsOf_ge (ρ := as.map some) (by omega)]
              cases q : rootsOf (List.replicate (N.length - vs.length) none) (List.replicate (n - np) none) (i - (as.map some).length) with
              | none => rfl
              | some pq =>
                have := (rootsOf_some.mp q).2
                have := List.mem_of_getElem? this
                simp at this
          rw [this]
          exact hs.rep
      have hlen : (L2.start N vs).length = n := by unfold L2.start; simp; omega
      have fin : ∀ (v : V) (σ' : St) (H' G' : Hp) (L' : Lab) (ρ' : Rho) (o : O), SRep K cl (σ' ++ [some v]) H' G' L' (ρ' ++ [some o]) → Frame H G L H' G' L' → Kp pr (L2.start N vs) σ' → as'= finA pr 0 as ρ' → r = o → n ≤ ρ'.length → Q v H' := fun v σ' H' G' L' ρ' o s' f' kp e1 e2 hn => by
        subst e1 e2
        obtain ⟨L2, s2, f2⟩ := SRep.finish (pr := pr) hs s' (by omega) z2 (fun i hi hlt => by
          rw [kp i hi]
          unfold L2.start
          rw [List.getElem?_append_left (by simp; omega)]) f'.le
        exact q v H' G' L2 s2 (f'.trans f2)
      split at e
      · rename_i ρ' e1
        split at e
        · rename_i hn
          cases e
          have hn := of_decide_eq_true hn
          refine ⟨G, L, _, .nx, ρ', s0, e1, fun σ' H' G' L' s' f' kp => ?_⟩
          exact fin .non σ' H' G' L' ρ' (.fz .non) (s'.push rfl) f' kp rfl rfl hn
        · cases e
      · rename_i o ρ' e1
        split at e
        · rename_i hn
          cases e
          have hn := of_decide_eq_true hn
          refine ⟨G, L, _, .rt r, ρ', s0, e1, fun v σ' H' G' L' s' f' kp => ?_⟩
          exact fin v σ' H' G' L' ρ' r s' f' kp rfl rfl hn
        · cases e
      · cases e
    · cases e
end PI
set_option Elab.async false
set_option linter.all false
set_option maxRecDepth 100000
set_option maxHeartbeats 1000000
set_option autoImplicit false
/-! PI14: the law's end; steps of the plain law. -/
namespace PI
open PySem PySem.Spec L2
theorem reps_ints {K : PySem.W.Frag} {cl : Cl} {G : Hp} : ∀ ns : List Int, RepVs K cl G (ns.map V.int) (ns.map D.int)
  | [] => rfl
  | n :: ns => ⟨.int n, ns.map V.int, rfl, rfl, reps_ints ns⟩
theorem law_sp {K : PySem.W.Frag} {cl : Cl} {fn : Fn} {a : Addr} {ns : List Int} {H : Hp} {E : XK} {as' : Rho} (hS : SqL K H a (ns.map V.int)) (h : fn [.fz (.rol (ns.map D.int))] = some (.fz (.bl true), as')) (hl : as'.length = 1) : spOf K cl fn [.ref a] H (fun v _ => v = .bl true) E := by
  refine ⟨H, fun _ => none, _, _, as', ⟨rfl, fun i o e => ?_, ⟨Le.refl, (fun b p l => by cases l), fun b xs e => e, fun i v o e => ?_, (fun b p l => by cases l)⟩⟩, h, hl, fun v H' G' L' s f => ?_⟩
  · match i, e with
    | 0, e => exact ⟨.ref a, rfl⟩
  · match i, e with
    | 0, e =>
      cases e
      exact ⟨a, _, rfl, hS, reps_ints ns⟩
  · have := s.rep.rep 1 v (.fz (.bl true)) (by
      match as', hl with
      | [x], _ => rfl)
    exact this
/-! ### steps -/
theorem seq_nx {g h : MS} {ρ ρ1 : Rho} {r : Option (Fl × Rho)} (e : g ρ = some (.nx, ρ1)) (e2 : h ρ1 = r) : sSeq g h ρ = r := by
  unfold sSeq
  rw [e]
  exact e2
theorem seq_rt {g h : MS} {ρ ρ1 : Rho} {o : O} (e : g ρ = some (.rt o, ρ1)) : sSeq g h ρ = some (.rt o, ρ1) := by
  unfold sSeq
  rw [e]
theorem run_rt {np n : Nat} {pr : List Nat} {body : MS} {as : List O} {o : O} {ρ' : Rho} (e : body (as.map some ++ List.replicate (n - np) none) = some (.rt o, ρ')) (h1 : (decide (as.length = np) && argsOk pr 0 as) = true := by rfl) (h2 : decide (n ≤ ρ'.length) = true := by rfl) :
    runDef np n pr body as = some (o, finA pr 0 as ρ') := by
  unfold runDef
  rw [h1]
  dsimp only
  rw [e]
  dsimp only
  rw [h2]
theorem call2 {fn : Fn} {st st' : O} {r : O} {n : Int} {ρ : Rho} (h : fn [st, .fz (.int n)] = some (r, [some st', some (.fz (.int n))])) : mCall fn [some 0, none] (aLend 0 (aCons (oFz (mC (.int n))) aNil)) (some st :: ρ) = some (r, some st' :: ρ) := by
  simp [mCall, aLend, aCons, oFz, mC, aNil, gather, h, setL]
end PI
set_option Elab.async false
set_option linter.all false
set_option maxRecDepth 100000
set_option maxHeartbeats 0
namespace Hd
open PySem PySem.Spec PyProof.Rows L2
def top (i : Nat) : Stmt := PySem.Challenge.pw_longpaid_k28_parts_that_are_alike.main.body.getD i (.Pass ⟨0, 0, 0, 0⟩)
def inCls (i j : Nat) : Stmt := match top i with
  | .ClassDef (body := b) .. => b.getD j (.Pass ⟨0, 0, 0, 0⟩)
  | s => s
abbrev s_proc_named : Stmt := top 2
def d_proc_named : He.DefD := ⟨("proc_named", none), "proc_named", "proc_named", defArgs s_proc_named, defBody s_proc_named, defScope s_proc_named, [], []⟩
abbrev s_size_of : Stmt := top 4
def d_size_of : He.DefD := ⟨("size_of", none), "size_of", "size_of", defArgs s_size_of, defBody s_size_of, defScope s_size_of, [], []⟩
abbrev s_arguments_of : Stmt := top 6
def d_arguments_of : He.DefD := ⟨("arguments_of", none), "arguments_of", "arguments_of", defArgs s_arguments_of, defBody s_arguments_of, defScope s_arguments_of, [], []⟩
abbrev s_answers_of : Stmt := top 7
def d_answers_of : He.DefD := ⟨("answers_of", none), "answers_of", "answers_of", defArgs s_answers_of, defBody s_answers_of, defScope s_answers_of, [], []⟩
abbrev s_are_alike : Stmt := top 8
def d_are_alike : He.DefD := ⟨("are_alike", none), "are_alike", "are_alike", defArgs s_are_alike, defBody s_are_alike, defScope s_are_alike, [], []⟩
abbrev s_u_law_start : Stmt := top 11
def d_u_law_start : He.DefD := ⟨("_law_start", none), "_law_start", "_law_start", defArgs s_u_law_start, defBody s_u_law_start, defScope s_u_law_start, [], []⟩
abbrev s_u_law_draw : Stmt := top 12
def d_u_law_draw : He.DefD := ⟨("_law_draw", none), "_law_draw", "_law_draw", defArgs s_u_law_draw, defBody s_u_law_draw, defScope s_u_law_draw, [], []⟩
abbrev s_u_law_words : Stmt := top 13
def d_u_law_words : He.DefD := ⟨("_law_words", none), "_law_words", "_law_words", defArgs s_u_law_words, defBody s_u_law_words, defScope s_u_law_words, [], []⟩
abbrev s_u_law_num : Stmt := top 14
def d_u_law_num : He.DefD := ⟨("_law_num", none), "_law_num", "_law_num", defArgs s_u_law_num, defBody s_u_law_num, defScope s_u_law_num, [], []⟩
abbrev s_u_law_add : Stmt := top 15
def d_u_law_add : He.DefD := ⟨("_law_add", none), "_law_add", "_law_add", defArgs s_u_law_add, defBody s_u_law_add, defScope s_u_law_add, [], []⟩
abbrev s_u_law_needs : Stmt := top 16
def d_u_law_needs : He.DefD := ⟨("_law_needs", none), "_law_needs", "_law_needs", defArgs s_u_law_needs, defBody s_u_law_needs, defScope s_u_law_needs, [], []⟩
abbrev s_u_law_side : Stmt := top 17
def d_u_law_side : He.DefD := ⟨("_law_side", none), "_law_side", "_law_side", defArgs s_u_law_side, defBody s_u_law_side, defScope s_u_law_side, [], []⟩
abbrev s_u_law_spec : Stmt := top 18
def d_u_law_spec : He.DefD := ⟨("_law_spec", none), "_law_spec", "_law_spec", defArgs s_u_law_spec, defBody s_u_law_spec, defScope s_u_law_spec, [], []⟩
abbrev s_u_law_two : Stmt := top 19
def d_u_law_two : He.DefD := ⟨("_law_two", none), "_law_two", "_law_two", defArgs s_u_law_two, defBody s_u_law_two, defScope s_u_law_two, [], []⟩
abbrev s_u_law_faults : Stmt := top 20
def d_u_law_faults : He.DefD := ⟨("_law_faults", none), "_law_faults", "_law_faults", defArgs s_u_law_faults, defBody s_u_law_faults, defScope s_u_law_faults, [], []⟩
abbrev s_law : Stmt := top 21
def d_law : He.DefD := ⟨("law", none), "law", "law", defArgs s_law, defBody s_law, defScope s_law, [], []⟩
abbrev s_Pair_init : Stmt := inCls 9 0
def d_Pair_init : He.DefD := ⟨("Pair", some "__init__"), "__init__", "Pair.__init__", defArgs s_Pair_init, defBody s_Pair_init, defScope s_Pair_init, [], []⟩
abbrev s_Pair_deeds : Stmt := inCls 9 1
def d_Pair_deeds : He.DefD := ⟨("Pair", some "deeds"), "deeds", "Pair.deeds", defArgs s_Pair_deeds, defBody s_Pair_deeds, defScope s_Pair_deeds, [], []⟩
abbrev s_Pair_names : Stmt := inCls 9 2
def d_Pair_names : He.DefD := ⟨("Pair", some "names"), "names", "Pair.names", defArgs s_Pair_names, defBody s_Pair_names, defScope s_Pair_names, [], []⟩
abbrev s_Pair_state_arrays : Stmt := inCls 9 3
def d_Pair_state_arrays : He.DefD := ⟨("Pair", some "state_arrays"), "state_arrays", "Pair.state_arrays", defArgs s_Pair_state_arrays, defBody s_Pair_state_arrays, defScope s_Pair_state_arrays, [], []⟩
abbrev s_Pair_pairs_ahead : Stmt := inCls 9 4
def d_Pair_pairs_ahead : He.DefD := ⟨("Pair", some "pairs_ahead"), "pairs_ahead", "Pair.pairs_ahead", defArgs s_Pair_pairs_ahead, defBody s_Pair_pairs_ahead, defScope s_Pair_pairs_ahead, [], []⟩
abbrev s_Pair_pairs_behind : Stmt := inCls 9 5
def d_Pair_pairs_behind : He.DefD := ⟨("Pair", some "pairs_behind"), "pairs_behind", "Pair.pairs_behind", defArgs s_Pair_pairs_behind, defBody s_Pair_pairs_behind, defScope s_Pair_pairs_behind, [], []⟩
abbrev s_Pair_array_pairs : Stmt := inCls 9 6
def d_Pair_array_pairs : He.DefD := ⟨("Pair", some "array_pairs"), "array_pairs", "Pair.array_pairs", defArgs s_Pair_array_pairs, defBody s_Pair_array_pairs, defScope s_Pair_array_pairs, [], []⟩
abbrev s_Pair_invariants_ahead : Stmt := inCls 9 7
def d_Pair_invariants_ahead : He.DefD := ⟨("Pair", some "invariants_ahead"), "invariants_ahead", "Pair.invariants_ahead", defArgs s_Pair_invariants_ahead, defBody s_Pair_invariants_ahead, defScope s_Pair_invariants_ahead, [], []⟩
def fn : List He.DefD := [d_proc_named, d_size_of, d_arguments_of, d_answers_of, d_are_alike, d_u_law_start, d_u_law_draw, d_u_law_words, d_u_law_num, d_u_law_add, d_u_law_needs, d_u_law_side, d_u_law_spec, d_u_law_two, d_u_law_faults, d_law, d_Pair_init, d_Pair_deeds, d_Pair_names, d_Pair_state_arrays, d_Pair_pairs_ahead, d_Pair_pairs_behind, d_Pair_array_pairs, d_Pair_invariants_ahead]
def fa : List He.Fa := [.glo "proc_named", .glo "size_of", .glo "arguments_of", .glo "answers_of", .glo "are_alike", .glo "_law_start", .glo "_law_draw", .glo "_law_words", .glo "_law_num", .glo "_law_add", .glo "_law_needs", .glo "_law_side", .glo "_law_spec", .glo "_law_two", .glo "_law_faults", .glo "law", .free "len", .free "tuple", .free "list", .free "range", .free "zip", .free "abs", .free "int", .glo "Pair", .cls "Pair", .mkr "Pair", .meth "Pair" "deeds", .meth "Pair" "names", .meth "Pair" "state_arrays", .meth "Pair" "pairs_ahead", .meth "Pair" "pairs_behind", .meth "Pair" "array_pairs", .meth "Pair" "invariants_ahead", .noat "Pair" "cores", .noat "Pair" "invariants", .noat "Pair" "parts"]
abbrev R : PySem.W.OpenRow := PySem.W.OpenLaw.row PySem.Challenge.rw_longpaid_k28_parts_that_are_alike
abbrev hk : PySem.W.Hook := He.hookD 5 fa fn
def ob (s : PySem.W.SharedT) : He.AlD := He.obsDG 5 fa fn (HandSHeadRun.getT s)
theorem ob_eq (s : PySem.W.SharedT) : ob s = hk.obs s.abs := He.obsDG_eq (HandSHeadRun.getT_eq s)
def lo0 : List PySem.Str := ["_wall", "proc_named", "size_of", "arguments_of", "answers_of", "are_alike", "Pair", "_law_start", "_law_draw", "_law_words", "_law_num", "_law_add", "_law_needs", "_law_side", "_law_spec", "_law_two", "_law_faults"]
def loose : List PySem.Str := lo0
theorem run (w : World) : HandSHeadRun.RunEq R (PySem.W.view R.prog [21]) hk ob 4000 loose w := by
  intro os
  kernel_rfl
end Hd
set_option Elab.async false
set_option linter.all false
set_option maxRecDepth 100000
set_option maxHeartbeats 1000000
set_option autoImplicit false
namespace Hd
open PySem PySem.Spec L2 PI
structure FD (K : PySem.W.Frag) (mg : Str → Option Value) (x : Str) (d : He.DefD) : Prop where
  ex : ∃ f fd, FunD K d.name d.qual d.params d.body d.scope [] [] f fd ∧ mg x = some (.ref f)
structure MDe (K : PySem.W.Frag) (C : Addr) (m : Str) (d : He.DefD) : Prop where
  ex : ∃ f fd, FunD K d.name d.qual d.params d.body d.scope [] [] f fd ∧ Cls K C ∧ Meth K C m f
structure NDe (K : PySem.W.Frag) (mg : Str → Option Value) (x : Str) (C : Addr) (d : He.DefD) : Prop where
  ex : ∃ f fd, FunD K d.name d.qual d.params d.body d.scope [] [] f fd ∧ Mk K C f ∧ mg x = some (.ref C)
def ok_cores (c : Nat) : Bool := c == 0
def ok_invariants (c : Nat) : Bool := c == 0
def ok_parts (c : Nat) : Bool := c == 0
structure Bnd (K : PySem.W.Frag) (mg : Str → Option Value) (cl : Cl) : Prop where
  f_u_law_start : FD K mg "_law_start" d_u_law_start
  f_u_law_spec : FD K mg "_law_spec" d_u_law_spec
  f_u_law_draw : FD K mg "_law_draw" d_u_law_draw
  f_u_law_two : FD K mg "_law_two" d_u_law_two
  f_u_law_words : FD K mg "_law_words" d_u_law_words
  f_u_law_num : FD K mg "_law_num" d_u_law_num
  f_u_law_needs : FD K mg "_law_needs" d_u_law_needs
  f_u_law_add : FD K mg "_law_add" d_u_law_add
  f_u_law_side : FD K mg "_law_side" d_u_law_side
  f_u_law_faults : FD K mg "_law_faults" d_u_law_faults
  f_Pair_init : NDe K mg "Pair" (cl 0) d_Pair_init
  f_proc_named : FD K mg "proc_named" d_proc_named
  f_answers_of : FD K mg "answers_of" d_answers_of
  f_size_of : FD K mg "size_of" d_size_of
  f_arguments_of : FD K mg "arguments_of" d_arguments_of
  f_are_alike : FD K mg "are_alike" d_are_alike
  f_law : FD K mg "law" d_law
  n_len : mg "len" = none
  n_tuple : mg "tuple" = none
  n_list : mg "list" = none
  n_range : mg "range" = none
  n_zip : mg "zip" = none
  n_abs : mg "abs" = none
  n_int : mg "int" = none
  at_cores : ∀ c, ok_cores c = true → Cls K (cl c) ∧ NoAttr K (cl c) "cores"
  at_invariants : ∀ c, ok_invariants c = true → Cls K (cl c) ∧ NoAttr K (cl c) "invariants"
  at_parts : ∀ c, ok_parts c = true → Cls K (cl c) ∧ NoAttr K (cl c) "parts"
def clOf (K : PySem.W.Frag) : Cl
  | 0 => He.ga K "Pair"
  | _ => 0
theorem bnd {K : PySem.W.Frag} {mg : Str → Option Value} {h : Heap} (X : K.In h) (G : h.Ns mainGlobals mg) (c : He.SaysD fa fn K) : Bnd K mg (clOf K) := by
  refine ⟨⟨_, _, (c.def_ 5 (d := d_u_law_start) rfl).choose_spec, He.glo_ok X G (c.fact 5 (f := .glo "_law_start") rfl)⟩,
    ⟨_, _, (c.def_ 12 (d := d_u_law_spec) rfl).choose_spec, He.glo_ok X G (c.fact 12 (f := .glo "_law_spec") rfl)⟩,
    ⟨_, _, (c.def_ 6 (d := d_u_law_draw) rfl).choose_spec, He.glo_ok X G (c.fact 6 (f := .glo "_law_draw") rfl)⟩,
    ⟨_, _, (c.def_ 13 (d := d_u_law_two) rfl).choose_spec, He.glo_ok X G (c.fact 13 (f := .glo "_law_two") rfl)⟩,
    ⟨_, _, (c.def_ 7 (d := d_u_law_words) rfl).choose_spec, He.glo_ok X G (c.fact 7 (f := .glo "_law_words") rfl)⟩,
    ⟨_, _, (c.def_ 8 (d := d_u_law_num) rfl).choose_spec, He.glo_ok X G (c.fact 8 (f := .glo "_law_num") rfl)⟩,
    ⟨_, _, (c.def_ 10 (d := d_u_law_needs) rfl).choose_spec, He.glo_ok X G (c.fact 10 (f := .glo "_law_needs") rfl)⟩,
    ⟨_, _, (c.def_ 9 (d := d_u_law_add) rfl).choose_spec, He.glo_ok X G (c.fact 9 (f := .glo "_law_add") rfl)⟩,
    ⟨_, _, (c.def_ 11 (d := d_u_law_side) rfl).choose_spec, He.glo_ok X G (c.fact 11 (f := .glo "_law_side") rfl)⟩,
    ⟨_, _, (c.def_ 14 (d := d_u_law_faults) rfl).choose_spec, He.glo_ok X G (c.fact 14 (f := .glo "_law_faults") rfl)⟩,
    ⟨_, _, (c.def_ 16 (d := d_Pair_init) rfl).choose_spec, He.mkr_ok (c.fact 25 (f := .mkr "Pair") rfl), He.glo_ok X G (c.fact 23 (f := .glo "Pair") rfl)⟩,
    ⟨_, _, (c.def_ 0 (d := d_proc_named) rfl).choose_spec, He.glo_ok X G (c.fact 0 (f := .glo "proc_named") rfl)⟩,
    ⟨_, _, (c.def_ 3 (d := d_answers_of) rfl).choose_spec, He.glo_ok X G (c.fact 3 (f := .glo "answers_of") rfl)⟩,
    ⟨_, _, (c.def_ 1 (d := d_size_of) rfl).choose_spec, He.glo_ok X G (c.fact 1 (f := .glo "size_of") rfl)⟩,
    ⟨_, _, (c.def_ 2 (d := d_arguments_of) rfl).choose_spec, He.glo_ok X G (c.fact 2 (f := .glo "arguments_of") rfl)⟩,
    ⟨_, _, (c.def_ 4 (d := d_are_alike) rfl).choose_spec, He.glo_ok X G (c.fact 4 (f := .glo "are_alike") rfl)⟩,
    ⟨_, _, (c.def_ 15 (d := d_law) rfl).choose_spec, He.glo_ok X G (c.fact 15 (f := .glo "law") rfl)⟩,
    He.free_ok X G (c.fact 16 (f := .free "len") rfl),
    He.free_ok X G (c.fact 17 (f := .free "tuple") rfl),
    He.free_ok X G (c.fact 18 (f := .free "list") rfl),
    He.free_ok X G (c.fact 19 (f := .free "range") rfl),
    He.free_ok X G (c.fact 20 (f := .free "zip") rfl),
    He.free_ok X G (c.fact 21 (f := .free "abs") rfl),
    He.free_ok X G (c.fact 22 (f := .free "int") rfl),
    (fun i h => by
      have e : i = 0 := by simpa [ok_cores] using h
      subst e
      exact ⟨He.cls_ok (c.fact 24 (f := .cls "Pair") rfl), He.noat_ok (c.fact 33 (f := .noat "Pair" "cores") rfl)⟩),
    (fun i h => by
      have e : i = 0 := by simpa [ok_invariants] using h
      subst e
      exact ⟨He.cls_ok (c.fact 24 (f := .cls "Pair") rfl), He.noat_ok (c.fact 34 (f := .noat "Pair" "invariants") rfl)⟩),
    (fun i h => by
      have e : i = 0 := by simpa [ok_parts] using h
      subst e
      exact ⟨He.cls_ok (c.fact 24 (f := .cls "Pair") rfl), He.noat_ok (c.fact 35 (f := .noat "Pair" "parts") rfl)⟩)⟩
theorem u1 {A : Around} (h : A.units + 64 < cLine) : A.units + 1 < cLine := by omega
/-! _law_start -/
abbrev LN_u_law_start : List Str := ["script"]
theorem sc_u_law_start : FnScope ["script"] ["script"] (defScope s_u_law_start) := ⟨rfl, rfl, rfl, by decide +kernel, rfl, by decide +kernel, by decide +kernel⟩
def der_u_law_start : { g : MS // ∀ (P : Program) (w : World) (K : PySem.W.Frag) (mg : Str → Option Value) (base : Heap) (cl : Cl) (B : Bnd K mg cl) (f : Addr) (cdv : Value) (A : Around) (outer : List PySem.Env) (s : Shared) (H : Hp) (E : XK), Room 0 (A.deeper (PyProof.Rows.envOfC d_u_law_start.qual d_u_law_start.scope s.heap.objs.size f cdv)) →
    SSs (cxOf CX0 P w K mg base ["script"] d_u_law_start.qual d_u_law_start.scope f cdv A outer s H E).nox cl [] d_u_law_start.body g } := ⟨_, fun P w K mg base cl B f cdv A outer s H E hr => by
  exact (ss_one (ss_ret (so_lst (sds_cons (so_list B.n_list (sd_var 0 (pv 0))).sd (sds_cons sd_int (sds_cons sd_int (sds_cons sd_int sds_nil)))))))⟩
def c_u_law_start : Fn := runDef 1 1 [] der_u_law_start.1
theorem ok_u_law_start {P : Program} {w : World} {K : PySem.W.Frag} {mg : Str → Option Value} {base : Heap} {cl : Cl} {A : Around} (B : Bnd K mg cl) (hr : Room 1 A) : Callee P w K mg base A cl "_law_start" c_u_law_start := by
  obtain ⟨f, fd, F, hm⟩ := B.f_u_law_start.ex
  exact ⟨_, _, ["script"], _, (def_ok F sc_u_law_start rfl rfl (by decide) fun cdv A outer s H E hr => der_u_law_start.2 P w K mg base cl B f cdv A outer s H E hr : FnOk P w K mg base CX0 1 f fd _ _), hr, hm, F.kp, (F.bindsN fun _ _ _ _ _ _ us hl => match us, hl with | [_], _ => rfl)⟩
/-! _law_spec -/
abbrev LN_u_law_spec : List Str := ["state", "name", "spec"]
theorem sc_u_law_spec : FnScope ["state", "name", "spec"] ["state", "name"] (defScope s_u_law_spec) := ⟨rfl, rfl, rfl, by decide +kernel, rfl, by decide +kernel, by decide +kernel⟩
def der_u_law_spec : { g : MS // ∀ (P : Program) (w : World) (K : PySem.W.Frag) (mg : Str → Option Value) (base : Heap) (cl : Cl) (B : Bnd K mg cl) (f : Addr) (cdv : Value) (A : Around) (outer : List PySem.Env) (s : Shared) (H : Hp) (E : XK), Room 0 (A.deeper (PyProof.Rows.envOfC d_u_law_spec.qual d_u_law_spec.scope s.heap.objs.size f cdv)) →
    SSs (cxOf CX0 P w K mg base ["state", "name", "spec"] d_u_law_spec.qual d_u_law_spec.scope f cdv A outer s H E).nox cl [0] d_u_law_spec.body g } := ⟨_, fun P w K mg base cl B f cdv A outer s H E hr => by
  exact (ss_cons (ss_set 2 (so_disp (sps_cons sd_str (sd_var 1 (pv 1)) (sps_cons sd_str sd_int (sps_cons sd_str sd_bl (sps_cons sd_str sd_int (sps_cons sd_str sd_int (sps_cons sd_str sd_int (sps_cons sd_str sd_non (sps_cons sd_str sd_int sps_nil))))))))) sc_u_law_spec.nd)
    (ss_one (ss_ret (so_move 2 (pv 2)))))⟩
def c_u_law_spec : Fn := runDef 2 3 [0] der_u_law_spec.1
theorem ok_u_law_spec {P : Program} {w : World} {K : PySem.W.Frag} {mg : Str → Option Value} {base : Heap} {cl : Cl} {A : Around} (B : Bnd K mg cl) (hr : Room 1 A) : Callee P w K mg base A cl "_law_spec" c_u_law_spec := by
  obtain ⟨f, fd, F, hm⟩ := B.f_u_law_spec.ex
  exact ⟨_, _, ["state", "name"], _, (def_ok F sc_u_law_spec rfl rfl (by decide) fun cdv A outer s H E hr => der_u_law_spec.2 P w K mg base cl B f cdv A outer s H E hr : FnOk P w K mg base CX0 1 f fd _ _), hr, hm, F.kp, (F.bindsN fun _ _ _ _ _ _ us hl => match us, hl with | [_, _], _ => rfl)⟩
/-! _law_draw -/
abbrev LN_u_law_draw : List Str := ["state", "most", "found", "cell", "mixed"]
theorem sc_u_law_draw : FnScope ["state", "most", "found", "cell", "mixed"] ["state", "most"] (defScope s_u_law_draw) := ⟨rfl, rfl, rfl, by decide +kernel, rfl, by decide +kernel, by decide +kernel⟩
def der_u_law_draw : { g : MS // ∀ (P : Program) (w : World) (K : PySem.W.Frag) (mg : Str → Option Value) (base : Heap) (cl : Cl) (B : Bnd K mg cl) (f : Addr) (cdv : Value) (A : Around) (outer : List PySem.Env) (s : Shared) (H : Hp) (E : XK), Room 0 (A.deeper (PyProof.Rows.envOfC d_u_law_draw.qual d_u_law_draw.scope s.heap.objs.size f cdv)) →
    SSs (cxOf CX0 P w K mg base ["state", "most", "found", "cell", "mixed"] d_u_law_draw.qual d_u_law_draw.scope f cdv A outer s H E).nox cl [0] d_u_law_draw.body g } := ⟨_, fun P w K mg base cl B f cdv A outer s H E hr => by
  exact (ss_cons (ss_item 0 ((sd_addG ((sd_ixG (u1 hr.units) (sd_var 0 (pv 0)) sd_int).peek) sd_int).so) (pv 0) sd_int)
    (ss_cons (ss_if ((st_gt (sd_ixG (u1 hr.units) (sd_var 0 (pv 0)) sd_int) sd_int).peek) (ss_cons (ss_set 2 ((sd_mod ((sd_intC B.n_int (sd_ixG (u1 hr.units) (sd_var 0 (pv 0)) sd_int)).peek) (sd_var 1 (pv 1))).so) sc_u_law_draw.nd)
    (ss_cons (ss_item 0 ((sd_fdiv ((sd_ixG (u1 hr.units) (sd_var 0 (pv 0)) sd_int).peek) (sd_var 1 (pv 1))).so) (pv 0) sd_int)
    (ss_one (ss_ret ((sd_var 2 (pv 2)).so))))) ss_nil)
    (ss_cons (ss_set 3 (sd_int.so) sc_u_law_draw.nd)
    (ss_cons (ss_if (st_gt ((sd_len B.n_len (sd_ixG (u1 hr.units) (sd_var 0 (pv 0)) sd_int)).peek) sd_int) (ss_one (ss_set 3 (((sd_abs B.n_abs (sd_ixG (u1 hr.units) (sd_ixG (u1 hr.units) (sd_var 0 (pv 0)) sd_int) (sd_mod (sd_intC B.n_int (sd_ixG (u1 hr.units) (sd_var 0 (pv 0)) sd_int)) (sd_len B.n_len (sd_ixG (u1 hr.units) (sd_var 0 (pv 0)) sd_int))))).peek).so) sc_u_law_draw.nd)) ss_nil)
    (ss_cons (ss_item 0 ((sd_addG ((sd_ixG (u1 hr.units) (sd_var 0 (pv 0)) sd_int).peek) sd_int).so) (pv 0) sd_int)
    (ss_cons (ss_if (st_ge (sd_var 3 (pv 3)) (sd_pow sd_int sd_int)) (ss_cons (ss_item 0 ((sd_fdiv (sd_var 3 (pv 3)) (sd_var 1 (pv 1))).so) (pv 0) sd_int)
    (ss_one (ss_ret ((sd_mod (sd_intC B.n_int (sd_var 3 (pv 3))) (sd_var 1 (pv 1))).so)))) ss_nil)
    (ss_cons (ss_set 4 ((sd_mod (sd_intC B.n_int (sd_addG (sd_mulG (sd_addG (sd_var 3 (pv 3)) sd_int) sd_int) (sd_mulG ((sd_ixG (u1 hr.units) (sd_var 0 (pv 0)) sd_int).peek) sd_int))) sd_int).so) sc_u_law_draw.nd)
    (ss_cons (ss_set 4 ((sd_mod (sd_intC B.n_int (sd_addG (sd_addG (sd_mulG (sd_var 4 (pv 4)) sd_int) (sd_fdiv (sd_var 3 (pv 3)) sd_int)) ((sd_ixG (u1 hr.units) (sd_var 0 (pv 0)) sd_int).peek))) sd_int).so) sc_u_law_draw.nd)
    (ss_one (ss_ret ((sd_mod (sd_fdiv (sd_var 4 (pv 4)) sd_int) (sd_var 1 (pv 1))).so)))))))))))⟩
def c_u_law_draw : Fn := runDef 2 5 [0] der_u_law_draw.1
theorem ok_u_law_draw {P : Program} {w : World} {K : PySem.W.Frag} {mg : Str → Option Value} {base : Heap} {cl : Cl} {A : Around} (B : Bnd K mg cl) (hr : Room 1 A) : Callee P w K mg base A cl "_law_draw" c_u_law_draw := by
  obtain ⟨f, fd, F, hm⟩ := B.f_u_law_draw.ex
  exact ⟨_, _, ["state", "most"], _, (def_ok F sc_u_law_draw rfl rfl (by decide) fun cdv A outer s H E hr => der_u_law_draw.2 P w K mg base cl B f cdv A outer s H E hr : FnOk P w K mg base CX0 1 f fd _ _), hr, hm, F.kp, (F.bindsN fun _ _ _ _ _ _ us hl => match us, hl with | [_, _], _ => rfl)⟩
/-! _law_two -/
abbrev LN_u_law_two : List Str := ["state", "one", "other", "many"]
theorem sc_u_law_two : FnScope ["state", "one", "other", "many"] ["state"] (defScope s_u_law_two) := ⟨rfl, rfl, rfl, by decide +kernel, rfl, by decide +kernel, by decide +kernel⟩
def der_u_law_two : { g : MS // ∀ (P : Program) (w : World) (K : PySem.W.Frag) (mg : Str → Option Value) (base : Heap) (cl : Cl) (B : Bnd K mg cl) (f : Addr) (cdv : Value) (A : Around) (outer : List PySem.Env) (s : Shared) (H : Hp) (E : XK), Room 2 (A.deeper (PyProof.Rows.envOfC d_u_law_two.qual d_u_law_two.scope s.heap.objs.size f cdv)) →
    SSs (cxOf CX0 P w K mg base ["state", "one", "other", "many"] d_u_law_two.qual d_u_law_two.scope f cdv A outer s H E).nox cl [0] d_u_law_two.body g } := ⟨_, fun P w K mg base cl B f cdv A outer s H E hr => by
  have c_u_law_draw := ok_u_law_draw (P := P) (w := w) (base := base) B (hr.mono (by decide : 1 ≤ 2))
  have c_u_law_spec := ok_u_law_spec (P := P) (w := w) (base := base) B (hr.mono (by decide : 1 ≤ 2))
  exact (ss_cons (ss_set 1 (so_call c_u_law_spec (by decide) (sa_lend 0 (pv 0) (sa_cons (sd_str.so) sa_nil))) sc_u_law_two.nd)
    (ss_cons (ss_set 2 (so_call c_u_law_spec (by decide) (sa_lend 0 (pv 0) (sa_cons (sd_str.so) sa_nil))) sc_u_law_two.nd)
    (ss_cons (ss_set 3 ((sd_addG sd_int (so_call c_u_law_draw (by decide) (sa_lend 0 (pv 0) (sa_cons (sd_int.so) sa_nil))).sd).so) sc_u_law_two.nd)
    (ss_cons (ss_put 1 (u1 hr.units) (sd_var 3 (pv 3)) (pv 1) sd_str)
    (ss_cons (ss_put 2 (u1 hr.units) (sd_var 3 (pv 3)) (pv 2) sd_str)
    (ss_cons (ss_put 2 (u1 hr.units) (sd_ixG (u1 hr.units) (so_lst (sds_cons sd_int (sds_cons sd_int (sds_cons sd_int (sds_cons sd_int (sds_cons (sd_neg sd_int) sds_nil)))))).sd (so_call c_u_law_draw (by decide) (sa_lend 0 (pv 0) (sa_cons (sd_int.so) sa_nil))).sd) (pv 2) sd_str)
    (ss_cons (ss_put 2 (u1 hr.units) (so_call c_u_law_draw (by decide) (sa_lend 0 (pv 0) (sa_cons (sd_int.so) sa_nil))).sd (pv 2) sd_str)
    (ss_cons (ss_put 2 (u1 hr.units) (sd_and ((sd_eq hr.units (sd_ixG (u1 hr.units) (sd_var 2 (pv 2)) sd_str) sd_int).peek) (sd_one (sd_eq hr.units (so_call c_u_law_draw (by decide) (sa_lend 0 (pv 0) (sa_cons (sd_int.so) sa_nil))).sd sd_int))) (pv 2) sd_str)
    (ss_cons (ss_if (st_eq hr.units (so_call c_u_law_draw (by decide) (sa_lend 0 (pv 0) (sa_cons (sd_int.so) sa_nil))).sd sd_int) (ss_cons (ss_put 1 (u1 hr.units) sd_int (pv 1) sd_str)
    (ss_one (ss_put 2 (u1 hr.units) sd_int (pv 2) sd_str))) ss_nil)
    (ss_one (ss_ret ((sd_tup (sds_cons (sd_take 1 (pv 1)) (sds_cons (sd_take 2 (pv 2)) sds_nil))).so))))))))))))⟩
def c_u_law_two : Fn := runDef 1 4 [0] der_u_law_two.1
theorem ok_u_law_two {P : Program} {w : World} {K : PySem.W.Frag} {mg : Str → Option Value} {base : Heap} {cl : Cl} {A : Around} (B : Bnd K mg cl) (hr : Room 3 A) : Callee P w K mg base A cl "_law_two" c_u_law_two := by
  obtain ⟨f, fd, F, hm⟩ := B.f_u_law_two.ex
  exact ⟨_, _, ["state"], _, (def_ok F sc_u_law_two rfl rfl (by decide) fun cdv A outer s H E hr => der_u_law_two.2 P w K mg base cl B f cdv A outer s H E hr : FnOk P w K mg base CX0 3 f fd _ _), hr, hm, F.kp, (F.bindsN fun _ _ _ _ _ _ us hl => match us, hl with | [_], _ => rfl)⟩
/-! _law_words -/
abbrev LN_u_law_words : List Str := ["state", "many", "letters", "start", "step", "shared", "k"]
theorem sc_u_law_words : FnScope ["state", "many", "letters", "start", "step", "shared", "k"] ["state", "many"] (defScope s_u_law_words) := ⟨rfl, rfl, rfl, by decide +kernel, rfl, by decide +kernel, by decide +kernel⟩
def der_u_law_words : { g : MS // ∀ (P : Program) (w : World) (K : PySem.W.Frag) (mg : Str → Option Value) (base : Heap) (cl : Cl) (B : Bnd K mg cl) (f : Addr) (cdv : Value) (A : Around) (outer : List PySem.Env) (s : Shared) (H : Hp) (E : XK), Room 2 (A.deeper (PyProof.Rows.envOfC d_u_law_words.qual d_u_law_words.scope s.heap.objs.size f cdv)) →
    SSs (cxOf CX0 P w K mg base ["state", "many", "letters", "start", "step", "shared", "k"] d_u_law_words.qual d_u_law_words.scope f cdv A outer s H E).nox cl [0] d_u_law_words.body g } := ⟨_, fun P w K mg base cl B f cdv A outer s H E hr => by
  have c_u_law_draw := ok_u_law_draw (P := P) (w := w) (base := base) B (hr.mono (by decide : 1 ≤ 2))
  exact (ss_cons (ss_set 2 (sd_str.so) sc_u_law_words.nd)
    (ss_cons (ss_set 3 ((so_call c_u_law_draw (by decide) (sa_lend 0 (pv 0) (sa_cons (sd_int.so) sa_nil))).sd.so) sc_u_law_words.nd)
    (ss_cons (ss_set 4 ((sd_addG sd_int (sd_mulG sd_int (so_call c_u_law_draw (by decide) (sa_lend 0 (pv 0) (sa_cons (sd_int.so) sa_nil))).sd)).so) sc_u_law_words.nd)
    (ss_cons (ss_set 5 ((sd_slice sd_str spo_none (spo_some (so_call c_u_law_draw (by decide) (sa_lend 0 (pv 0) (sa_cons (sd_int.so) sa_nil))).sd)).so) sc_u_law_words.nd)
    (ss_cons (ss_if (st_eq hr.units (so_call c_u_law_draw (by decide) (sa_lend 0 (pv 0) (sa_cons (sd_int.so) sa_nil))).sd sd_int) (ss_one (ss_ret (so_comp (own := [("k", 6)]) (si_range1 B.n_range (sd_var 1 (pv 1))) (blkOk_by (show blkC LN_u_law_words d_u_law_words.scope _ _ = true by decide +kernel)) (fun s H C cs fp => (sg_name 6 (pg_name sc_u_law_words.nd (by rfl) (by first | exact Or.inl rfl | exact Or.inr rfl)))) (fun s H C cs fp => sts_nil) (fun s H C cs fp => (sd_addG (sd_var 5 (pv 5)) (sd_ixG (u1 hr.units) (sd_var 2 (pv 2)) (sd_mod (sd_intC B.n_int (sd_addG (sd_var 3 (pv 3)) (sd_mulG (sd_var 6 (pv 6)) (sd_var 4 (pv 4))))) sd_int)))) sc_u_law_words.nd))) ss_nil)
    (ss_one (ss_ret (so_comp (own := [("k", 6)]) (si_range1 B.n_range (sd_var 1 (pv 1))) (blkOk_by (show blkC LN_u_law_words d_u_law_words.scope _ _ = true by decide +kernel)) (fun s H C cs fp => (sg_name 6 (pg_name sc_u_law_words.nd (by rfl) (by first | exact Or.inl rfl | exact Or.inr rfl)))) (fun s H C cs fp => sts_nil) (fun s H C cs fp => (sd_addG (sd_ixG (u1 hr.units) (sd_var 2 (pv 2)) (sd_mod (sd_intC B.n_int (sd_addG (sd_var 3 (pv 3)) (sd_mulG (sd_var 6 (pv 6)) (sd_var 4 (pv 4))))) sd_int)) (sd_var 5 (pv 5)))) sc_u_law_words.nd))))))))⟩
def c_u_law_words : Fn := runDef 2 7 [0] der_u_law_words.1
theorem ok_u_law_words {P : Program} {w : World} {K : PySem.W.Frag} {mg : Str → Option Value} {base : Heap} {cl : Cl} {A : Around} (B : Bnd K mg cl) (hr : Room 3 A) : Callee P w K mg base A cl "_law_words" c_u_law_words := by
  obtain ⟨f, fd, F, hm⟩ := B.f_u_law_words.ex
  exact ⟨_, _, ["state", "many"], _, (def_ok F sc_u_law_words rfl rfl (by decide) fun cdv A outer s H E hr => der_u_law_words.2 P w K mg base cl B f cdv A outer s H E hr : FnOk P w K mg base CX0 3 f fd _ _), hr, hm, F.kp, (F.bindsN fun _ _ _ _ _ _ us hl => match us, hl with | [_, _], _ => rfl)⟩
/-! _law_num -/
abbrev LN_u_law_num : List Str := ["k"]
theorem sc_u_law_num : FnScope ["k"] ["k"] (defScope s_u_law_num) := ⟨rfl, rfl, rfl, by decide +kernel, rfl, by decide +kernel, by decide +kernel⟩
def der_u_law_num : { g : MS // ∀ (P : Program) (w : World) (K : PySem.W.Frag) (mg : Str → Option Value) (base : Heap) (cl : Cl) (B : Bnd K mg cl) (f : Addr) (cdv : Value) (A : Around) (outer : List PySem.Env) (s : Shared) (H : Hp) (E : XK), Room 0 (A.deeper (PyProof.Rows.envOfC d_u_law_num.qual d_u_law_num.scope s.heap.objs.size f cdv)) →
    SSs (cxOf CX0 P w K mg base ["k"] d_u_law_num.qual d_u_law_num.scope f cdv A outer s H E).nox cl [] d_u_law_num.body g } := ⟨_, fun P w K mg base cl B f cdv A outer s H E hr => by
  exact (ss_cons (ss_if (st_lt (sd_var 0 (pv 0)) sd_int) (ss_one (ss_ret ((sd_tup (sds_cons sd_str (sds_cons (sd_neg sd_int) (sds_cons (sd_tup (sds_cons sd_str (sds_cons (sd_neg (sd_var 0 (pv 0))) sds_nil))) sds_nil)))).so))) ss_nil)
    (ss_one (ss_ret ((sd_tup (sds_cons sd_str (sds_cons (sd_var 0 (pv 0)) sds_nil))).so))))⟩
def c_u_law_num : Fn := runDef 1 1 [] der_u_law_num.1
theorem ok_u_law_num {P : Program} {w : World} {K : PySem.W.Frag} {mg : Str → Option Value} {base : Heap} {cl : Cl} {A : Around} (B : Bnd K mg cl) (hr : Room 1 A) : Callee P w K mg base A cl "_law_num" c_u_law_num := by
  obtain ⟨f, fd, F, hm⟩ := B.f_u_law_num.ex
  exact ⟨_, _, ["k"], _, (def_ok F sc_u_law_num rfl rfl (by decide) fun cdv A outer s H E hr => der_u_law_num.2 P w K mg base cl B f cdv A outer s H E hr : FnOk P w K mg base CX0 1 f fd _ _), hr, hm, F.kp, (F.bindsN fun _ _ _ _ _ _ us hl => match us, hl with | [_], _ => rfl)⟩
/-! _law_needs -/
abbrev LN_u_law_needs : List Str := ["low", "k"]
theorem sc_u_law_needs : FnScope ["low", "k"] ["low", "k"] (defScope s_u_law_needs) := ⟨rfl, rfl, rfl, by decide +kernel, rfl, by decide +kernel, by decide +kernel⟩
def der_u_law_needs : { g : MS // ∀ (P : Program) (w : World) (K : PySem.W.Frag) (mg : Str → Option Value) (base : Heap) (cl : Cl) (B : Bnd K mg cl) (f : Addr) (cdv : Value) (A : Around) (outer : List PySem.Env) (s : Shared) (H : Hp) (E : XK), Room 0 (A.deeper (PyProof.Rows.envOfC d_u_law_needs.qual d_u_law_needs.scope s.heap.objs.size f cdv)) →
    SSs (cxOf CX0 P w K mg base ["low", "k"] d_u_law_needs.qual d_u_law_needs.scope f cdv A outer s H E).nox cl [] d_u_law_needs.body g } := ⟨_, fun P w K mg base cl B f cdv A outer s H E hr => by
  exact (ss_cons (ss_if (st_is (sd_var 0 (pv 0)) sd_non) (ss_one (ss_ret ((sd_tup sds_nil).so))) ss_nil)
    (ss_one (ss_ret ((sd_tup (sds_cons (sd_tup (sds_cons (sd_neg (sd_var 0 (pv 0))) (sds_cons (sd_tup (sds_cons (sd_tup (sds_cons (sd_addG sd_str (sd_var 1 (pv 1))) (sds_cons sd_int sds_nil))) sds_nil)) sds_nil))) sds_nil)).so))))⟩
def c_u_law_needs : Fn := runDef 2 2 [] der_u_law_needs.1
theorem ok_u_law_needs {P : Program} {w : World} {K : PySem.W.Frag} {mg : Str → Option Value} {base : Heap} {cl : Cl} {A : Around} (B : Bnd K mg cl) (hr : Room 1 A) : Callee P w K mg base A cl "_law_needs" c_u_law_needs := by
  obtain ⟨f, fd, F, hm⟩ := B.f_u_law_needs.ex
  exact ⟨_, _, ["low", "k"], _, (def_ok F sc_u_law_needs rfl rfl (by decide) fun cdv A outer s H E hr => der_u_law_needs.2 P w K mg base cl B f cdv A outer s H E hr : FnOk P w K mg base CX0 1 f fd _ _), hr, hm, F.kp, (F.bindsN fun _ _ _ _ _ _ us hl => match us, hl with | [_, _], _ => rfl)⟩
/-! _law_add -/
abbrev LN_u_law_add : List Str := ["x", "k"]
theorem sc_u_law_add : FnScope ["x", "k"] ["x", "k"] (defScope s_u_law_add) := ⟨rfl, rfl, rfl, by decide +kernel, rfl, by decide +kernel, by decide +kernel⟩
def der_u_law_add : { g : MS // ∀ (P : Program) (w : World) (K : PySem.W.Frag) (mg : Str → Option Value) (base : Heap) (cl : Cl) (B : Bnd K mg cl) (f : Addr) (cdv : Value) (A : Around) (outer : List PySem.Env) (s : Shared) (H : Hp) (E : XK), Room 2 (A.deeper (PyProof.Rows.envOfC d_u_law_add.qual d_u_law_add.scope s.heap.objs.size f cdv)) →
    SSs (cxOf CX0 P w K mg base ["x", "k"] d_u_law_add.qual d_u_law_add.scope f cdv A outer s H E).nox cl [] d_u_law_add.body g } := ⟨_, fun P w K mg base cl B f cdv A outer s H E hr => by
  have c_u_law_num := ok_u_law_num (P := P) (w := w) (base := base) B (hr.mono (by decide : 1 ≤ 2))
  exact (ss_one (ss_ret ((sd_tup (sds_cons sd_str (sds_cons (sd_tup (sds_cons (sd_tup (sds_cons (sd_var 0 (pv 0)) (sds_cons (sd_tup (sds_cons sd_str (sds_cons (sd_tup (sds_cons sd_str (sds_cons (sd_var 0 (pv 0)) sds_nil))) (sds_cons (so_callD c_u_law_num (sds_cons (sd_var 1 (pv 1)) sds_nil)).sd sds_nil)))) sds_nil))) sds_nil)) sds_nil))).so)))⟩
def c_u_law_add : Fn := runDef 2 2 [] der_u_law_add.1
theorem ok_u_law_add {P : Program} {w : World} {K : PySem.W.Frag} {mg : Str → Option Value} {base : Heap} {cl : Cl} {A : Around} (B : Bnd K mg cl) (hr : Room 3 A) : Callee P w K mg base A cl "_law_add" c_u_law_add := by
  obtain ⟨f, fd, F, hm⟩ := B.f_u_law_add.ex
  exact ⟨_, _, ["x", "k"], _, (def_ok F sc_u_law_add rfl rfl (by decide) fun cdv A outer s H E hr => der_u_law_add.2 P w K mg base cl B f cdv A outer s H E hr : FnOk P w K mg base CX0 3 f fd _ _), hr, hm, F.kp, (F.bindsN fun _ _ _ _ _ _ us hl => match us, hl with | [_, _], _ => rfl)⟩
/-! _law_side -/
abbrev LN_u_law_side : List Str := ["state", "spec", "x", "a", "w", "k", "t", "i", "order", "items", "places", "log", "low", "less", "told", "pauses", "body", "needs", "results", "put", "take", "sums", "loop", "walk", "deeds", "arrays", "start", "p"]
theorem sc_u_law_side : FnScope ["state", "spec", "x", "a", "w", "k", "t", "i", "order", "items", "places", "log", "low", "less", "told", "pauses", "body", "needs", "results", "put", "take", "sums", "loop", "walk", "deeds", "arrays", "start", "p"] ["state", "spec"] (defScope s_u_law_side) := ⟨rfl, rfl, rfl, by decide +kernel, rfl, by decide +kernel, by decide +kernel⟩
def der_u_law_side : { g : MS // ∀ (P : Program) (w : World) (K : PySem.W.Frag) (mg : Str → Option Value) (base : Heap) (cl : Cl) (B : Bnd K mg cl) (f : Addr) (cdv : Value) (A : Around) (outer : List PySem.Env) (s : Shared) (H : Hp) (E : XK), Room 4 (A.deeper (PyProof.Rows.envOfC d_u_law_side.qual d_u_law_side.scope s.heap.objs.size f cdv)) →
    SSs (cxOf CX0 P w K mg base ["state", "spec", "x", "a", "w", "k", "t", "i", "order", "items", "places", "log", "low", "less", "told", "pauses", "body", "needs", "results", "put", "take", "sums", "loop", "walk", "deeds", "arrays", "start", "p"] d_u_law_side.qual d_u_law_side.scope f cdv A outer s H E).nox cl [0] d_u_law_side.body g } := ⟨_, fun P w K mg base cl B f cdv A outer s H E hr => by
  have c_u_law_add := ok_u_law_add (P := P) (w := w) (base := base) B (hr.mono (by decide : 3 ≤ 4))
  have c_u_law_needs := ok_u_law_needs (P := P) (w := w) (base := base) B (hr.mono (by decide : 1 ≤ 4))
  have c_u_law_num := ok_u_law_num (P := P) (w := w) (base := base) B (hr.mono (by decide : 1 ≤ 4))
  have c_u_law_words := ok_u_law_words (P := P) (w := w) (base := base) B (hr.mono (by decide : 3 ≤ 4))
  exact (ss_cons (ss_unp (so_call c_u_law_words (by decide) (sa_lend 0 (pv 0) (sa_cons (sd_int.so) sa_nil))).sd (sg_tup (n := 6) (sgs_cons (sg_name 2 (pg_name sc_u_law_side.nd (by rfl) (by first | exact Or.inl rfl | exact Or.inr rfl))) (sgs_cons (sg_name 3 (pg_name sc_u_law_side.nd (by rfl) (by first | exact Or.inl rfl | exact Or.inr rfl))) (sgs_cons (sg_name 4 (pg_name sc_u_law_side.nd (by rfl) (by first | exact Or.inl rfl | exact Or.inr rfl))) (sgs_cons (sg_name 5 (pg_name sc_u_law_side.nd (by rfl) (by first | exact Or.inl rfl | exact Or.inr rfl))) (sgs_cons (sg_name 6 (pg_name sc_u_law_side.nd (by rfl) (by first | exact Or.inl rfl | exact Or.inr rfl))) (sgs_cons (sg_name 7 (pg_name sc_u_law_side.nd (by rfl) (by first | exact Or.inl rfl | exact Or.inr rfl))) sgs_nil))))))))
    (ss_cons (ss_set 8 ((sd_slice (so_lst (sds_cons (sd_tup (sds_cons sd_str (sds_cons (sd_var 3 (pv 3)) sds_nil))) (sds_cons (sd_tup (sds_cons sd_str (sds_cons (sd_var 4 (pv 4)) sds_nil))) sds_nil))).sd spo_none (spo_some (sd_addG sd_int (sd_ixG (u1 hr.units) (sd_var 1 (pv 1)) sd_str)))).so) sc_u_law_side.nd)
    (ss_cons (ss_if (st_tru (sd_ixG (u1 hr.units) (sd_var 1 (pv 1)) sd_str)) (ss_one (ss_set 8 ((sd_rev (sd_var 8 (pv 8))).so) sc_u_law_side.nd)) ss_nil)
    (ss_cons (ss_set 9 ((sd_addG (sd_tup (sds_cons (sd_tup (sds_cons sd_str (sds_cons (sd_var 2 (pv 2)) sds_nil))) sds_nil)) (sd_tuple B.n_tuple (sd_var 8 (pv 8)))).so) sc_u_law_side.nd)
    (ss_cons (ss_set 10 ((sd_tup (sds_cons (sd_tup (sds_cons sd_str (sds_cons (sd_var 6 (pv 6)) sds_nil))) (sds_cons (sd_tup (sds_cons sd_str (sds_cons (sd_var 7 (pv 7)) sds_nil))) sds_nil))).so) sc_u_law_side.nd)
    (ss_cons (ss_set 11 ((sd_mulG (sd_tup (sds_cons (sd_tup (sds_cons sd_str (sds_cons (sd_tup (sds_cons sd_str (sds_cons (sd_var 5 (pv 5)) sds_nil))) (sds_cons (sd_var 4 (pv 4)) sds_nil)))) sds_nil)) (sd_ixG (u1 hr.units) (sd_var 1 (pv 1)) sd_str)).so) sc_u_law_side.nd)
    (ss_cons (ss_set 12 ((so_callD c_u_law_num (sds_cons (sd_ixG (u1 hr.units) (sd_var 1 (pv 1)) sd_str) sds_nil)).sd.so) sc_u_law_side.nd)
    (ss_cons (ss_set 13 ((sd_tup (sds_cons sd_str (sds_cons (sd_tup (sds_cons sd_str (sds_cons (sd_var 12 (pv 12)) (sds_cons (sd_tup (sds_cons sd_str (sds_cons (sd_var 2 (pv 2)) sds_nil))) sds_nil)))) (sds_cons (sd_tup (sds_cons (so_callD c_u_law_add (sds_cons (sd_var 2 (pv 2)) (sds_cons (sd_neg (sd_ixG (u1 hr.units) (sd_var 1 (pv 1)) sd_str)) sds_nil))).sd sds_nil)) (sds_cons (sd_tup sds_nil) sds_nil))))).so) sc_u_law_side.nd)
    (ss_cons (ss_set 14 ((sd_tup (sds_cons sd_str (sds_cons (sd_tup (sds_cons sd_str (sds_cons (sd_var 2 (pv 2)) sds_nil))) (sds_cons (sd_var 12 (pv 12)) sds_nil)))).so) sc_u_law_side.nd)
    (ss_cons (ss_if (st_ne hr.units (sd_ixG (u1 hr.units) (sd_var 1 (pv 1)) sd_str) sd_int) (ss_one (ss_set 14 ((sd_tup (sds_cons sd_str (sds_cons (sd_var 3 (pv 3)) sds_nil))).so) sc_u_law_side.nd)) ss_nil)
    (ss_cons (ss_set 15 ((sd_mulG (sd_tup (sds_cons (sd_tup (sds_cons sd_str sds_nil)) sds_nil)) (sd_ixG (u1 hr.units) (sd_var 1 (pv 1)) sd_str)).so) sc_u_law_side.nd)
    (ss_cons (ss_set 16 ((sd_addG (sd_addG (sd_tup (sds_cons (sd_tup (sds_cons sd_str (sds_cons (sd_tup (sds_cons sd_str (sds_cons (sd_var 5 (pv 5)) sds_nil))) (sds_cons (sd_var 3 (pv 3)) sds_nil)))) sds_nil)) (sd_var 11 (pv 11))) (sd_tup (sds_cons (so_callD c_u_law_add (sds_cons (sd_var 2 (pv 2)) (sds_cons (sd_ixG (u1 hr.units) (sd_var 1 (pv 1)) sd_str) sds_nil))).sd (sds_cons (sd_tup (sds_cons sd_str (sds_cons (sd_tup (sds_cons (sd_tup (sds_cons sd_str (sds_cons (sd_var 2 (pv 2)) sds_nil))) (sds_cons (sd_var 14 (pv 14)) sds_nil))) sds_nil))) sds_nil)))).so) sc_u_law_side.nd)
    (ss_cons (ss_set 17 ((so_callD c_u_law_needs (sds_cons (sd_ixG (u1 hr.units) (sd_var 1 (pv 1)) sd_str) (sds_cons (sd_var 5 (pv 5)) sds_nil))).sd.so) sc_u_law_side.nd)
    (ss_cons (ss_set 18 ((sd_tup (sds_cons sd_str (sds_cons sd_str sds_nil))).so) sc_u_law_side.nd)
    (ss_cons (ss_set 19 ((sd_tup (sds_cons (sd_addG sd_str (sd_ixG (u1 hr.units) (sd_var 1 (pv 1)) sd_str)) (sds_cons (sd_addG (sd_var 9 (pv 9)) (sd_tup (sds_cons (sd_tup (sds_cons sd_str (sds_cons (sd_var 5 (pv 5)) sds_nil))) sds_nil))) (sds_cons (sd_var 18 (pv 18)) (sds_cons (sd_var 10 (pv 10)) (sds_cons (sd_var 17 (pv 17)) (sds_cons (sd_tup sds_nil) (sds_cons (sd_tup sds_nil) (sds_cons (sd_tup sds_nil) (sds_cons (sd_var 16 (pv 16)) sds_nil)))))))))).so) sc_u_law_side.nd)
    (ss_cons (ss_set 16 ((sd_addG (sd_addG (sd_tup (sds_cons (sd_tup (sds_cons sd_str (sds_cons (sd_var 6 (pv 6)) (sds_cons (sd_var 3 (pv 3)) sds_nil)))) (sds_cons (sd_var 13 (pv 13)) sds_nil))) (sd_var 15 (pv 15))) (sd_tup (sds_cons (sd_tup (sds_cons sd_str (sds_cons (sd_tup (sds_cons (sd_tup (sds_cons sd_str (sds_cons (sd_var 2 (pv 2)) sds_nil))) (sds_cons (sd_tup (sds_cons sd_str (sds_cons (sd_var 6 (pv 6)) sds_nil))) sds_nil))) sds_nil))) sds_nil))).so) sc_u_law_side.nd)
    (ss_cons (ss_set 20 ((sd_tup (sds_cons (sd_addG sd_str (sd_ixG (u1 hr.units) (sd_var 1 (pv 1)) sd_str)) (sds_cons (sd_var 9 (pv 9)) (sds_cons (sd_var 18 (pv 18)) (sds_cons (sd_var 10 (pv 10)) (sds_cons (sd_tup sds_nil) (sds_cons (sd_tup sds_nil) (sds_cons (sd_tup sds_nil) (sds_cons (sd_tup sds_nil) (sds_cons (sd_var 16 (pv 16)) sds_nil)))))))))).so) sc_u_law_side.nd)
    (ss_cons (ss_set 21 ((sd_tup (sds_cons sd_str (sds_cons (sd_tup (sds_cons (sd_tup (sds_cons (sd_var 6 (pv 6)) (sds_cons (sd_tup (sds_cons sd_str (sds_cons (sd_tup (sds_cons sd_str (sds_cons (sd_var 6 (pv 6)) sds_nil))) (sds_cons (sd_tup (sds_cons sd_str (sds_cons (sd_var 3 (pv 3)) (sds_cons (sd_tup (sds_cons sd_str (sds_cons (sd_var 7 (pv 7)) sds_nil))) sds_nil)))) sds_nil)))) sds_nil))) sds_nil)) sds_nil))).so) sc_u_law_side.nd)
    (ss_cons (ss_set 22 ((sd_tup (sds_cons sd_str (sds_cons (sd_tup (sds_cons sd_str (sds_cons (sd_tup (sds_cons sd_str (sds_cons (sd_var 7 (pv 7)) sds_nil))) (sds_cons (sd_tup (sds_cons sd_str (sds_cons (sd_var 3 (pv 3)) sds_nil))) sds_nil)))) (sds_cons (sd_tup (sds_cons (sd_var 21 (pv 21)) (sds_cons (so_callD c_u_law_add (sds_cons (sd_var 7 (pv 7)) (sds_cons sd_int sds_nil))).sd sds_nil))) sds_nil)))).so) sc_u_law_side.nd)
    (ss_cons (ss_set 16 ((sd_tup (sds_cons (sd_var 22 (pv 22)) (sds_cons (sd_tup (sds_cons sd_str (sds_cons (sd_tup (sds_cons (sd_tup (sds_cons sd_str (sds_cons (sd_var 2 (pv 2)) sds_nil))) (sds_cons (sd_tup (sds_cons sd_str (sds_cons (sd_var 6 (pv 6)) sds_nil))) sds_nil))) sds_nil))) sds_nil))).so) sc_u_law_side.nd)
    (ss_cons (ss_set 23 ((sd_tup (sds_cons (sd_addG sd_str (sd_ixG (u1 hr.units) (sd_var 1 (pv 1)) sd_str)) (sds_cons (sd_var 9 (pv 9)) (sds_cons (sd_var 18 (pv 18)) (sds_cons (sd_var 10 (pv 10)) (sds_cons (sd_tup sds_nil) (sds_cons (sd_tup sds_nil) (sds_cons (sd_tup sds_nil) (sds_cons (sd_tup sds_nil) (sds_cons (sd_var 16 (pv 16)) sds_nil)))))))))).so) sc_u_law_side.nd)
    (ss_cons (ss_set 24 ((sd_slice (so_lst (sds_cons (sd_var 19 (pv 19)) (sds_cons (sd_var 20 (pv 20)) (sds_cons (sd_var 23 (pv 23)) sds_nil)))).sd spo_none (spo_some (sd_ixG (u1 hr.units) (sd_var 1 (pv 1)) sd_str))).so) sc_u_law_side.nd)
    (ss_cons (ss_set 25 ((sd_len B.n_len (sd_var 8 (pv 8))).so) sc_u_law_side.nd)
    (ss_cons (ss_set 26 ((sd_addG (sd_tup (sds_cons (sd_ixG (u1 hr.units) (sd_var 1 (pv 1)) sd_str) sds_nil)) (sd_mulG (sd_tup (sds_cons (sd_tup sds_nil) sds_nil)) (sd_var 25 (pv 25)))).so) sc_u_law_side.nd)
    (ss_one (ss_ret ((sd_tup (sds_cons (sd_tuple B.n_tuple (sd_var 24 (pv 24))) (sds_cons (sd_tup (sds_cons sd_int (sds_cons (sd_var 25 (pv 25)) (sds_cons (sd_tup sds_nil) (sds_cons (sd_tuple B.n_tuple (so_comp (own := [("p", 27)]) (si_seq (sd_var 24 (pv 24))) (blkOk_by (show blkC LN_u_law_side d_u_law_side.scope _ _ = true by decide +kernel)) (fun s H C cs fp => (sg_name 27 (pg_name sc_u_law_side.nd (by rfl) (by first | exact Or.inl rfl | exact Or.inr rfl)))) (fun s H C cs fp => sts_nil) (fun s H C cs fp => (sd_ixG (u1 hr.units) (sd_var 27 (pv 27)) sd_int)) sc_u_law_side.nd).sd) (sds_cons (sd_var 26 (pv 26)) sds_nil)))))) sds_nil))).so)))))))))))))))))))))))))))⟩
def c_u_law_side : Fn := runDef 2 28 [0] der_u_law_side.1
theorem ok_u_law_side {P : Program} {w : World} {K : PySem.W.Frag} {mg : Str → Option Value} {base : Heap} {cl : Cl} {A : Around} (B : Bnd K mg cl) (hr : Room 5 A) : Callee P w K mg base A cl "_law_side" c_u_law_side := by
  obtain ⟨f, fd, F, hm⟩ := B.f_u_law_side.ex
  exact ⟨_, _, ["state", "spec"], _, (def_ok F sc_u_law_side rfl rfl (by decide) fun cdv A outer s H E hr => der_u_law_side.2 P w K mg base cl B f cdv A outer s H E hr : FnOk P w K mg base CX0 5 f fd _ _), hr, hm, F.kp, (F.bindsN fun _ _ _ _ _ _ us hl => match us, hl with | [_, _], _ => rfl)⟩
/-! _law_faults -/
abbrev LN_u_law_faults : List Str := ["core", "part", "p", "rest", "found", "kind", "q"]
theorem sc_u_law_faults : FnScope ["core", "part", "p", "rest", "found", "kind", "q"] ["core", "part"] (defScope s_u_law_faults) := ⟨rfl, rfl, rfl, by decide +kernel, rfl, by decide +kernel, by decide +kernel⟩
def der_u_law_faults : { g : MS // ∀ (P : Program) (w : World) (K : PySem.W.Frag) (mg : Str → Option Value) (base : Heap) (cl : Cl) (B : Bnd K mg cl) (f : Addr) (cdv : Value) (A : Around) (outer : List PySem.Env) (s : Shared) (H : Hp) (E : XK), Room 0 (A.deeper (PyProof.Rows.envOfC d_u_law_faults.qual d_u_law_faults.scope s.heap.objs.size f cdv)) →
    SSs (cxOf CX0 P w K mg base ["core", "part", "p", "rest", "found", "kind", "q"] d_u_law_faults.qual d_u_law_faults.scope f cdv A outer s H E).nox cl [] d_u_law_faults.body g } := ⟨_, fun P w K mg base cl B f cdv A outer s H E hr => by
  exact (ss_cons (ss_set 2 ((sd_ixG (u1 hr.units) (so_comp (own := [("q", 6)]) (si_seq (sd_var 0 (pv 0))) (blkOk_by (show blkC LN_u_law_faults d_u_law_faults.scope _ _ = true by decide +kernel)) (fun s H C cs fp => (sg_name 6 (pg_name sc_u_law_faults.nd (by rfl) (by first | exact Or.inl rfl | exact Or.inr rfl)))) (fun s H C cs fp => (sts_one (st_eq hr.units (sd_ixG (u1 hr.units) (sd_var 6 (pv 6)) sd_int) (sd_ixG (u1 hr.units) (sd_ixG (u1 hr.units) (sd_var 1 (pv 1)) sd_int) (sd_neg sd_int))))) (fun s H C cs fp => (sd_var 6 (pv 6))) sc_u_law_faults.nd).sd sd_int).so) sc_u_law_faults.nd)
    (ss_cons (ss_set 3 ((sd_tuple B.n_tuple (so_comp (own := [("q", 6)]) (si_seq (sd_var 0 (pv 0))) (blkOk_by (show blkC LN_u_law_faults d_u_law_faults.scope _ _ = true by decide +kernel)) (fun s H C cs fp => (sg_name 6 (pg_name sc_u_law_faults.nd (by rfl) (by first | exact Or.inl rfl | exact Or.inr rfl)))) (fun s H C cs fp => (sts_one (st_ne hr.units (sd_ixG (u1 hr.units) (sd_var 6 (pv 6)) sd_int) (sd_ixG (u1 hr.units) (sd_var 2 (pv 2)) sd_int)))) (fun s H C cs fp => (sd_var 6 (pv 6))) sc_u_law_faults.nd).sd).so) sc_u_law_faults.nd)
    (ss_cons (ss_set 4 (so_lst sds_nil) sc_u_law_faults.nd)
    (ss_cons (ss_if (st_gt (sd_len B.n_len (sd_ixG (u1 hr.units) (sd_var 1 (pv 1)) sd_int)) sd_int) (ss_one (ss_append 4 ((sd_tup (sds_cons (sd_var 0 (pv 0)) (sds_cons (sd_addG (sd_slice (sd_var 1 (pv 1)) spo_none (spo_some sd_int)) (sd_tup (sds_cons (sd_slice (sd_ixG (u1 hr.units) (sd_var 1 (pv 1)) sd_int) spo_none (spo_some (sd_neg sd_int))) (sds_cons (sd_ixG (u1 hr.units) (sd_var 1 (pv 1)) sd_int) sds_nil)))) sds_nil))).so) (pv 4))) ss_nil)
    (ss_cons (ss_append 4 ((sd_tup (sds_cons (sd_var 0 (pv 0)) (sds_cons (sd_addG (sd_addG (sd_slice (sd_var 1 (pv 1)) spo_none (spo_some sd_int)) (sd_tup (sds_cons (sd_tup (sds_cons sd_int sds_nil)) sds_nil))) (sd_slice (sd_var 1 (pv 1)) (spo_some sd_int) spo_none)) sds_nil))).so) (pv 4))
    (ss_cons (ss_for (si_seq (so_lst (sds_cons sd_str (sds_cons sd_str sds_nil))).sd) (sg_name 5 (pg_name sc_u_law_faults.nd (by rfl) (by first | exact Or.inl rfl | exact Or.inr rfl))) (ss_one (ss_append 4 ((sd_tup (sds_cons (sd_addG (sd_var 3 (pv 3)) (sd_tup (sds_cons (sd_addG (sd_addG (sd_slice (sd_var 2 (pv 2)) spo_none (spo_some sd_int)) (sd_tup (sds_cons (sd_addG (sd_ixG (u1 hr.units) (sd_var 2 (pv 2)) sd_int) (sd_tup (sds_cons (sd_tup (sds_cons (sd_var 5 (pv 5)) (sds_cons sd_str sds_nil))) sds_nil))) sds_nil))) (sd_slice (sd_var 2 (pv 2)) (spo_some sd_int) spo_none)) sds_nil))) (sds_cons (sd_var 1 (pv 1)) sds_nil))).so) (pv 4))))
    (ss_cons (ss_append 4 ((sd_tup (sds_cons (sd_addG (sd_var 3 (pv 3)) (sd_tup (sds_cons (sd_addG (sd_addG (sd_slice (sd_var 2 (pv 2)) spo_none (spo_some sd_int)) (sd_tup (sds_cons (sd_addG (sd_ixG (u1 hr.units) (sd_var 2 (pv 2)) sd_int) (sd_tup (sds_cons sd_str sds_nil))) sds_nil))) (sd_slice (sd_var 2 (pv 2)) (spo_some sd_int) spo_none)) sds_nil))) (sds_cons (sd_var 1 (pv 1)) sds_nil))).so) (pv 4))
    (ss_cons (ss_if (st_gt (sd_len B.n_len (sd_ixG (u1 hr.units) (sd_var 2 (pv 2)) sd_int)) (sd_addG (sd_ixG (u1 hr.units) (sd_var 1 (pv 1)) sd_int) (sd_ixG (u1 hr.units) (sd_var 1 (pv 1)) sd_int))) (ss_one (ss_append 4 ((sd_tup (sds_cons (sd_addG (sd_var 3 (pv 3)) (sd_tup (sds_cons (sd_addG (sd_addG (sd_slice (sd_var 2 (pv 2)) spo_none (spo_some sd_int)) (sd_tup (sds_cons (sd_addG (sd_slice (sd_ixG (u1 hr.units) (sd_var 2 (pv 2)) sd_int) spo_none (spo_some (sd_neg sd_int))) (sd_tup (sds_cons (sd_tup (sds_cons sd_str (sds_cons sd_str sds_nil))) sds_nil))) sds_nil))) (sd_slice (sd_var 2 (pv 2)) (spo_some sd_int) spo_none)) sds_nil))) (sds_cons (sd_var 1 (pv 1)) sds_nil))).so) (pv 4))) ss_nil)
    (ss_one (ss_ret (so_move 4 (pv 4))))))))))))⟩
def c_u_law_faults : Fn := runDef 2 7 [] der_u_law_faults.1
theorem ok_u_law_faults {P : Program} {w : World} {K : PySem.W.Frag} {mg : Str → Option Value} {base : Heap} {cl : Cl} {A : Around} (B : Bnd K mg cl) (hr : Room 1 A) : Callee P w K mg base A cl "_law_faults" c_u_law_faults := by
  obtain ⟨f, fd, F, hm⟩ := B.f_u_law_faults.ex
  exact ⟨_, _, ["core", "part"], _, (def_ok F sc_u_law_faults rfl rfl (by decide) fun cdv A outer s H E hr => der_u_law_faults.2 P w K mg base cl B f cdv A outer s H E hr : FnOk P w K mg base CX0 1 f fd _ _), hr, hm, F.kp, (F.bindsN fun _ _ _ _ _ _ us hl => match us, hl with | [_, _], _ => rfl)⟩
/-! Pair.__init__ -/
abbrev LN_Pair_init : List Str := ["self", "cores", "parts", "invariants"]
theorem sc_Pair_init : FnScope ["self", "cores", "parts", "invariants"] ["self", "cores", "parts", "invariants"] (defScope s_Pair_init) := ⟨rfl, rfl, rfl, by decide +kernel, rfl, by decide +kernel, by decide +kernel⟩
def der_Pair_init : { g : MS // ∀ (P : Program) (w : World) (K : PySem.W.Frag) (mg : Str → Option Value) (base : Heap) (cl : Cl) (B : Bnd K mg cl) (f : Addr) (cdv : Value) (A : Around) (outer : List PySem.Env) (s : Shared) (H : Hp) (E : XK), Room 0 (A.deeper (PyProof.Rows.envOfC d_Pair_init.qual d_Pair_init.scope s.heap.objs.size f cdv)) →
    SSs (cxOf CX0 P w K mg base ["self", "cores", "parts", "invariants"] d_Pair_init.qual d_Pair_init.scope f cdv A outer s H E).nox cl [0] d_Pair_init.body g } := ⟨_, fun P w K mg base cl B f cdv A outer s H E hr => by
  exact (ss_cons (ss_fld 0 (ok := ok_cores) (B.at_cores) ((sd_var 1 (pv 1)).so) (pv 0))
    (ss_cons (ss_fld 0 (ok := ok_parts) (B.at_parts) ((sd_var 2 (pv 2)).so) (pv 0))
    (ss_one (ss_fld 0 (ok := ok_invariants) (B.at_invariants) ((sd_var 3 (pv 3)).so) (pv 0)))))⟩
def c_Pair_init : Fn := runDef 4 4 [0] der_Pair_init.1
theorem ok_Pair_init {P : Program} {w : World} {K : PySem.W.Frag} {mg : Str → Option Value} {base : Heap} {cl : Cl} {A : Around} (B : Bnd K mg cl) (hr : Room 2 A) : Maker P w K mg base A cl 0 "Pair" c_Pair_init := by
  obtain ⟨f, fd, F, hm, hx⟩ := B.f_Pair_init.ex
  exact ⟨_, _, ["self", "cores", "parts", "invariants"], _, (def_ok F sc_Pair_init rfl rfl (by decide) fun cdv A outer s H E hr => der_Pair_init.2 P w K mg base cl B f cdv A outer s H E hr : FnOk P w K mg base CX0 1 f fd _ _), hr, hm, hx, (F.bindsN fun _ _ _ _ _ _ us hl => match us, hl with | [_, _, _, _], _ => rfl)⟩
/-! proc_named -/
abbrev LN_proc_named : List Str := ["core", "name", "proc"]
theorem sc_proc_named : FnScope ["core", "name", "proc"] ["core", "name"] (defScope s_proc_named) := ⟨rfl, rfl, rfl, by decide +kernel, rfl, by decide +kernel, by decide +kernel⟩
def der_proc_named : { g : MS // ∀ (P : Program) (w : World) (K : PySem.W.Frag) (mg : Str → Option Value) (base : Heap) (cl : Cl) (B : Bnd K mg cl) (f : Addr) (cdv : Value) (A : Around) (outer : List PySem.Env) (s : Shared) (H : Hp) (E : XK), Room 0 (A.deeper (PyProof.Rows.envOfC d_proc_named.qual d_proc_named.scope s.heap.objs.size f cdv)) →
    SSs (cxOf CX0 P w K mg base ["core", "name", "proc"] d_proc_named.qual d_proc_named.scope f cdv A outer s H E).nox cl [] d_proc_named.body g } := ⟨_, fun P w K mg base cl B f cdv A outer s H E hr => by
  exact (ss_one (ss_ret ((sd_ixG (u1 hr.units) (so_comp (own := [("proc", 2)]) (si_seq (sd_var 0 (pv 0))) (blkOk_by (show blkC LN_proc_named d_proc_named.scope _ _ = true by decide +kernel)) (fun s H C cs fp => (sg_name 2 (pg_name sc_proc_named.nd (by rfl) (by first | exact Or.inl rfl | exact Or.inr rfl)))) (fun s H C cs fp => (sts_one (st_eq hr.units (sd_ixG (u1 hr.units) (sd_var 2 (pv 2)) sd_int) (sd_var 1 (pv 1))))) (fun s H C cs fp => (sd_var 2 (pv 2))) sc_proc_named.nd).sd sd_int).so)))⟩
def c_proc_named : Fn := runDef 2 3 [] der_proc_named.1
theorem ok_proc_named {P : Program} {w : World} {K : PySem.W.Frag} {mg : Str → Option Value} {base : Heap} {cl : Cl} {A : Around} (B : Bnd K mg cl) (hr : Room 1 A) : Callee P w K mg base A cl "proc_named" c_proc_named := by
  obtain ⟨f, fd, F, hm⟩ := B.f_proc_named.ex
  exact ⟨_, _, ["core", "name"], _, (def_ok F sc_proc_named rfl rfl (by decide) fun cdv A outer s H E hr => der_proc_named.2 P w K mg base cl B f cdv A outer s H E hr : FnOk P w K mg base CX0 1 f fd _ _), hr, hm, F.kp, (F.bindsN fun _ _ _ _ _ _ us hl => match us, hl with | [_, _], _ => rfl)⟩
/-! answers_of -/
abbrev LN_answers_of : List Str := ["core", "part", "deed"]
theorem sc_answers_of : FnScope ["core", "part", "deed"] ["core", "part", "deed"] (defScope s_answers_of) := ⟨rfl, rfl, rfl, by decide +kernel, rfl, by decide +kernel, by decide +kernel⟩
def der_answers_of : { g : MS // ∀ (P : Program) (w : World) (K : PySem.W.Frag) (mg : Str → Option Value) (base : Heap) (cl : Cl) (B : Bnd K mg cl) (f : Addr) (cdv : Value) (A : Around) (outer : List PySem.Env) (s : Shared) (H : Hp) (E : XK), Room 2 (A.deeper (PyProof.Rows.envOfC d_answers_of.qual d_answers_of.scope s.heap.objs.size f cdv)) →
    SSs (cxOf CX0 P w K mg base ["core", "part", "deed"] d_answers_of.qual d_answers_of.scope f cdv A outer s H E).nox cl [] d_answers_of.body g } := ⟨_, fun P w K mg base cl B f cdv A outer s H E hr => by
  have c_proc_named := ok_proc_named (P := P) (w := w) (base := base) B (hr.mono (by decide : 1 ≤ 2))
  exact (ss_one (ss_ret ((sd_sub (sd_len B.n_len (sd_ixG (u1 hr.units) (so_callD c_proc_named (sds_cons (sd_var 0 (pv 0)) (sds_cons (sd_var 2 (pv 2)) sds_nil))).sd sd_int)) (sd_ixG (u1 hr.units) (sd_var 1 (pv 1)) sd_int)).so)))⟩
def c_answers_of : Fn := runDef 3 3 [] der_answers_of.1
theorem ok_answers_of {P : Program} {w : World} {K : PySem.W.Frag} {mg : Str → Option Value} {base : Heap} {cl : Cl} {A : Around} (B : Bnd K mg cl) (hr : Room 3 A) : Callee P w K mg base A cl "answers_of" c_answers_of := by
  obtain ⟨f, fd, F, hm⟩ := B.f_answers_of.ex
  exact ⟨_, _, ["core", "part", "deed"], _, (def_ok F sc_answers_of rfl rfl (by decide) fun cdv A outer s H E hr => der_answers_of.2 P w K mg base cl B f cdv A outer s H E hr : FnOk P w K mg base CX0 3 f fd _ _), hr, hm, F.kp, (F.bindsN fun _ _ _ _ _ _ us hl => match us, hl with | [_, _, _], _ => rfl)⟩
/-! size_of -/
abbrev LN_size_of : List Str := ["part"]
theorem sc_size_of : FnScope ["part"] ["part"] (defScope s_size_of) := ⟨rfl, rfl, rfl, by decide +kernel, rfl, by decide +kernel, by decide +kernel⟩
def der_size_of : { g : MS // ∀ (P : Program) (w : World) (K : PySem.W.Frag) (mg : Str → Option Value) (base : Heap) (cl : Cl) (B : Bnd K mg cl) (f : Addr) (cdv : Value) (A : Around) (outer : List PySem.Env) (s : Shared) (H : Hp) (E : XK), Room 0 (A.deeper (PyProof.Rows.envOfC d_size_of.qual d_size_of.scope s.heap.objs.size f cdv)) →
    SSs (cxOf CX0 P w K mg base ["part"] d_size_of.qual d_size_of.scope f cdv A outer s H E).nox cl [] d_size_of.body g } := ⟨_, fun P w K mg base cl B f cdv A outer s H E hr => by
  exact (ss_one (ss_ret ((sd_addG (sd_ixG (u1 hr.units) (sd_var 0 (pv 0)) sd_int) (sd_ixG (u1 hr.units) (sd_var 0 (pv 0)) sd_int)).so)))⟩
def c_size_of : Fn := runDef 1 1 [] der_size_of.1
theorem ok_size_of {P : Program} {w : World} {K : PySem.W.Frag} {mg : Str → Option Value} {base : Heap} {cl : Cl} {A : Around} (B : Bnd K mg cl) (hr : Room 1 A) : Callee P w K mg base A cl "size_of" c_size_of := by
  obtain ⟨f, fd, F, hm⟩ := B.f_size_of.ex
  exact ⟨_, _, ["part"], _, (def_ok F sc_size_of rfl rfl (by decide) fun cdv A outer s H E hr => der_size_of.2 P w K mg base cl B f cdv A outer s H E hr : FnOk P w K mg base CX0 1 f fd _ _), hr, hm, F.kp, (F.bindsN fun _ _ _ _ _ _ us hl => match us, hl with | [_], _ => rfl)⟩
/-! arguments_of -/
abbrev LN_arguments_of : List Str := ["core", "part", "deed"]
theorem sc_arguments_of : FnScope ["core", "part", "deed"] ["core", "part", "deed"] (defScope s_arguments_of) := ⟨rfl, rfl, rfl, by decide +kernel, rfl, by decide +kernel, by decide +kernel⟩
def der_arguments_of : { g : MS // ∀ (P : Program) (w : World) (K : PySem.W.Frag) (mg : Str → Option Value) (base : Heap) (cl : Cl) (B : Bnd K mg cl) (f : Addr) (cdv : Value) (A : Around) (outer : List PySem.Env) (s : Shared) (H : Hp) (E : XK), Room 2 (A.deeper (PyProof.Rows.envOfC d_arguments_of.qual d_arguments_of.scope s.heap.objs.size f cdv)) →
    SSs (cxOf CX0 P w K mg base ["core", "part", "deed"] d_arguments_of.qual d_arguments_of.scope f cdv A outer s H E).nox cl [] d_arguments_of.body g } := ⟨_, fun P w K mg base cl B f cdv A outer s H E hr => by
  have c_proc_named := ok_proc_named (P := P) (w := w) (base := base) B (hr.mono (by decide : 1 ≤ 2))
  have c_size_of := ok_size_of (P := P) (w := w) (base := base) B (hr.mono (by decide : 1 ≤ 2))
  exact (ss_one (ss_ret ((sd_slice (sd_ixG (u1 hr.units) (so_callD c_proc_named (sds_cons (sd_var 0 (pv 0)) (sds_cons (sd_var 2 (pv 2)) sds_nil))).sd sd_int) (spo_some (so_callD c_size_of (sds_cons (sd_var 1 (pv 1)) sds_nil)).sd) spo_none).so)))⟩
def c_arguments_of : Fn := runDef 3 3 [] der_arguments_of.1
theorem ok_arguments_of {P : Program} {w : World} {K : PySem.W.Frag} {mg : Str → Option Value} {base : Heap} {cl : Cl} {A : Around} (B : Bnd K mg cl) (hr : Room 3 A) : Callee P w K mg base A cl "arguments_of" c_arguments_of := by
  obtain ⟨f, fd, F, hm⟩ := B.f_arguments_of.ex
  exact ⟨_, _, ["core", "part", "deed"], _, (def_ok F sc_arguments_of rfl rfl (by decide) fun cdv A outer s H E hr => der_arguments_of.2 P w K mg base cl B f cdv A outer s H E hr : FnOk P w K mg base CX0 3 f fd _ _), hr, hm, F.kp, (F.bindsN fun _ _ _ _ _ _ us hl => match us, hl with | [_, _, _], _ => rfl)⟩
/-! are_alike -/
abbrev LN_are_alike : List Str := ["left", "right", "part", "other", "deed", "partner", "kinds", "item"]
theorem sc_are_alike : FnScope ["left", "right", "part", "other", "deed", "partner", "kinds", "item"] ["left", "right", "part", "other"] (defScope s_are_alike) := ⟨rfl, rfl, rfl, by decide +kernel, rfl, by decide +kernel, by decide +kernel⟩
def der_are_alike : { g : MS // ∀ (P : Program) (w : World) (K : PySem.W.Frag) (mg : Str → Option Value) (base : Heap) (cl : Cl) (B : Bnd K mg cl) (f : Addr) (cdv : Value) (A : Around) (outer : List PySem.Env) (s : Shared) (H : Hp) (E : XK), Room 4 (A.deeper (PyProof.Rows.envOfC d_are_alike.qual d_are_alike.scope s.heap.objs.size f cdv)) →
    SSs (cxOf CX0 P w K mg base ["left", "right", "part", "other", "deed", "partner", "kinds", "item"] d_are_alike.qual d_are_alike.scope f cdv A outer s H E).nox cl [] d_are_alike.body g } := ⟨_, fun P w K mg base cl B f cdv A outer s H E hr => by
  have c_answers_of := ok_answers_of (P := P) (w := w) (base := base) B (hr.mono (by decide : 3 ≤ 4))
  have c_arguments_of := ok_arguments_of (P := P) (w := w) (base := base) B (hr.mono (by decide : 3 ≤ 4))
  exact (ss_cons (ss_if (SW.st (sw_or (st_ne hr.units (sd_len B.n_len (sd_ixG (u1 hr.units) (sd_var 2 (pv 2)) sd_int)) (sd_len B.n_len (sd_ixG (u1 hr.units) (sd_var 3 (pv 3)) sd_int))) (sw_or1 (st_ne hr.units (sd_len B.n_len (sd_ixG (u1 hr.units) (sd_var 2 (pv 2)) sd_int)) (sd_len B.n_len (sd_ixG (u1 hr.units) (sd_var 3 (pv 3)) sd_int)))))) (ss_one (ss_ret (sd_bl.so))) ss_nil)
    (ss_cons (ss_for (si_zip B.n_zip (sd_ixG (u1 hr.units) (sd_var 2 (pv 2)) sd_int) (sd_ixG (u1 hr.units) (sd_var 3 (pv 3)) sd_int)) (sg_tup (n := 2) (sgs_cons (sg_name 4 (pg_name sc_are_alike.nd (by rfl) (by first | exact Or.inl rfl | exact Or.inr rfl))) (sgs_cons (sg_name 5 (pg_name sc_are_alike.nd (by rfl) (by first | exact Or.inl rfl | exact Or.inr rfl))) sgs_nil))) (ss_cons (ss_setComp 6 (own := [("item", 7)]) (si_seq (so_callD c_arguments_of (sds_cons (sd_var 0 (pv 0)) (sds_cons (sd_var 2 (pv 2)) (sds_cons (sd_var 4 (pv 4)) sds_nil)))).sd) (blkOk_by (show blkC LN_are_alike d_are_alike.scope _ _ = true by decide +kernel)) (fun s H C cs fp => (sg_name 7 (pg_name sc_are_alike.nd (by rfl) (by first | exact Or.inl rfl | exact Or.inr rfl)))) (fun s H C cs fp => sts_nil) (fun s H C cs fp => (sd_ixG (u1 hr.units) (sd_var 7 (pv 7)) sd_int)) sc_are_alike.nd)
    (ss_cons (ss_if ((st_ne hr.units (sd_var 6 (pv 6)) (so_comp (own := [("item", 7)]) (si_seq (so_callD c_arguments_of (sds_cons (sd_var 1 (pv 1)) (sds_cons (sd_var 3 (pv 3)) (sds_cons (sd_var 5 (pv 5)) sds_nil)))).sd) (blkOk_by (show blkC LN_are_alike d_are_alike.scope _ _ = true by decide +kernel)) (fun s H C cs fp => (sg_name 7 (pg_name sc_are_alike.nd (by rfl) (by first | exact Or.inl rfl | exact Or.inr rfl)))) (fun s H C cs fp => sts_nil) (fun s H C cs fp => (sd_ixG (u1 hr.units) (sd_var 7 (pv 7)) sd_int)) sc_are_alike.nd).sd).peek) (ss_one (ss_ret (sd_bl.so))) ss_nil)
    (ss_one (ss_if (st_ne hr.units (so_callD c_answers_of (sds_cons (sd_var 0 (pv 0)) (sds_cons (sd_var 2 (pv 2)) (sds_cons (sd_var 4 (pv 4)) sds_nil)))).sd (so_callD c_answers_of (sds_cons (sd_var 1 (pv 1)) (sds_cons (sd_var 3 (pv 3)) (sds_cons (sd_var 5 (pv 5)) sds_nil)))).sd) (ss_one (ss_ret (sd_bl.so))) ss_nil)))))
    (ss_one (ss_ret (sd_bl.so)))))⟩
def c_are_alike : Fn := runDef 4 8 [] der_are_alike.1
theorem ok_are_alike {P : Program} {w : World} {K : PySem.W.Frag} {mg : Str → Option Value} {base : Heap} {cl : Cl} {A : Around} (B : Bnd K mg cl) (hr : Room 5 A) : Callee P w K mg base A cl "are_alike" c_are_alike := by
  obtain ⟨f, fd, F, hm⟩ := B.f_are_alike.ex
  exact ⟨_, _, ["left", "right", "part", "other"], _, (def_ok F sc_are_alike rfl rfl (by decide) fun cdv A outer s H E hr => der_are_alike.2 P w K mg base cl B f cdv A outer s H E hr : FnOk P w K mg base CX0 5 f fd _ _), hr, hm, F.kp, (F.bindsN fun _ _ _ _ _ _ us hl => match us, hl with | [_, _, _, _], _ => rfl)⟩
/-! law -/
abbrev LN_law : List Str := ["script", "state", "turn", "specs", "left", "part", "right", "other", "core", "odd", "pair"]
theorem sc_law : FnScope ["script", "state", "turn", "specs", "left", "part", "right", "other", "core", "odd", "pair"] ["script"] (defScope s_law) := ⟨rfl, rfl, rfl, by decide +kernel, rfl, by decide +kernel, by decide +kernel⟩
def der_law : { g : MS // ∀ (P : Program) (w : World) (K : PySem.W.Frag) (mg : Str → Option Value) (base : Heap) (cl : Cl) (B : Bnd K mg cl) (f : Addr) (cdv : Value) (A : Around) (outer : List PySem.Env) (s : Shared) (H : Hp) (E : XK), Room 6 (A.deeper (PyProof.Rows.envOfC d_law.qual d_law.scope s.heap.objs.size f cdv)) →
    SSs (cxOf CX0 P w K mg base ["script", "state", "turn", "specs", "left", "part", "right", "other", "core", "odd", "pair"] d_law.qual d_law.scope f cdv A outer s H E).nox cl [] d_law.body g } := ⟨_, fun P w K mg base cl B f cdv A outer s H E hr => by
  have c_Pair_init := ok_Pair_init (P := P) (w := w) (base := base) B (hr.mono (by decide : 2 ≤ 6))
  have c_u_law_faults := ok_u_law_faults (P := P) (w := w) (base := base) B (hr.mono (by decide : 1 ≤ 6))
  have c_are_alike := ok_are_alike (P := P) (w := w) (base := base) B (hr.mono (by decide : 5 ≤ 6))
  have c_u_law_side := ok_u_law_side (P := P) (w := w) (base := base) B (hr.mono (by decide : 5 ≤ 6))
  have c_u_law_two := ok_u_law_two (P := P) (w := w) (base := base) B (hr.mono (by decide : 3 ≤ 6))
  have c_u_law_start := ok_u_law_start (P := P) (w := w) (base := base) B (hr.mono (by decide : 1 ≤ 6))
  exact (ss_cons (ss_set 1 (so_callD c_u_law_start (sds_cons (sd_var 0 (pv 0)) sds_nil)) sc_law.nd)
    (ss_cons (ss_for (si_range1 B.n_range sd_int) (sg_name 2 (pg_name sc_law.nd (by rfl) (by first | exact Or.inl rfl | exact Or.inr rfl))) (ss_cons (ss_set 3 ((so_call c_u_law_two (by decide) (sa_lend 1 (pv 1) sa_nil)).sd.so) sc_law.nd)
    (ss_cons (ss_unp (so_call c_u_law_side (by decide) (sa_lend 1 (pv 1) (sa_cons ((sd_ixG (u1 hr.units) (sd_var 3 (pv 3)) sd_int).so) sa_nil))).sd (sg_tup (n := 2) (sgs_cons (sg_name 4 (pg_name sc_law.nd (by rfl) (by first | exact Or.inl rfl | exact Or.inr rfl))) (sgs_cons (sg_name 5 (pg_name sc_law.nd (by rfl) (by first | exact Or.inl rfl | exact Or.inr rfl))) sgs_nil))))
    (ss_cons (ss_unp (so_call c_u_law_side (by decide) (sa_lend 1 (pv 1) (sa_cons ((sd_ixG (u1 hr.units) (sd_var 3 (pv 3)) sd_int).so) sa_nil))).sd (sg_tup (n := 2) (sgs_cons (sg_name 6 (pg_name sc_law.nd (by rfl) (by first | exact Or.inl rfl | exact Or.inr rfl))) (sgs_cons (sg_name 7 (pg_name sc_law.nd (by rfl) (by first | exact Or.inl rfl | exact Or.inr rfl))) sgs_nil))))
    (ss_cons (ss_if (SW.st (sw_or (st_isNot (so_callD c_are_alike (sds_cons (sd_var 4 (pv 4)) (sds_cons (sd_var 6 (pv 6)) (sds_cons (sd_var 5 (pv 5)) (sds_cons (sd_var 7 (pv 7)) sds_nil))))).sd sd_bl) (sw_or1 (st_isNot (so_callD c_are_alike (sds_cons (sd_var 6 (pv 6)) (sds_cons (sd_var 4 (pv 4)) (sds_cons (sd_var 7 (pv 7)) (sds_cons (sd_var 5 (pv 5)) sds_nil))))).sd sd_bl)))) (ss_one (ss_ret (sd_bl.so))) ss_nil)
    (ss_cons (ss_for (si_seq (so_callD c_u_law_faults (sds_cons (sd_var 6 (pv 6)) (sds_cons (sd_var 7 (pv 7)) sds_nil))).sd) (sg_tup (n := 2) (sgs_cons (sg_name 8 (pg_name sc_law.nd (by rfl) (by first | exact Or.inl rfl | exact Or.inr rfl))) (sgs_cons (sg_name 9 (pg_name sc_law.nd (by rfl) (by first | exact Or.inl rfl | exact Or.inr rfl))) sgs_nil))) (ss_one (ss_if (SW.st (sw_or (st_isNot (so_callD c_are_alike (sds_cons (sd_var 4 (pv 4)) (sds_cons (sd_var 8 (pv 8)) (sds_cons (sd_var 5 (pv 5)) (sds_cons (sd_var 9 (pv 9)) sds_nil))))).sd sd_bl) (sw_or1 (st_isNot (so_callD c_are_alike (sds_cons (sd_var 8 (pv 8)) (sds_cons (sd_var 4 (pv 4)) (sds_cons (sd_var 9 (pv 9)) (sds_cons (sd_var 5 (pv 5)) sds_nil))))).sd sd_bl)))) (ss_one (ss_ret (sd_bl.so))) ss_nil)))
    (ss_cons (ss_set 10 ((so_newD c_Pair_init (sds_cons (sd_tup (sds_cons (sd_var 4 (pv 4)) (sds_cons (sd_var 6 (pv 6)) sds_nil))) (sds_cons (sd_tup (sds_cons (sd_var 5 (pv 5)) (sds_cons (sd_var 7 (pv 7)) sds_nil))) (sds_cons (sd_tup (sds_cons (sd_tup sds_nil) (sds_cons (sd_tup (sds_cons (sd_tup (sds_cons sd_int (sds_cons (sd_tup sds_nil) sds_nil))) sds_nil)) sds_nil))) sds_nil)))).sd.so) sc_law.nd)
    (ss_one (ss_if (SW.st (sw_or (st_ne hr.units (sd_attr (ok := ok_cores) (B.at_cores) (sd_var 10 (pv 10))) (sd_tup (sds_cons (sd_var 4 (pv 4)) (sds_cons (sd_var 6 (pv 6)) sds_nil)))) (sw_or (st_ne hr.units (sd_attr (ok := ok_parts) (B.at_parts) (sd_var 10 (pv 10))) (sd_tup (sds_cons (sd_var 5 (pv 5)) (sds_cons (sd_var 7 (pv 7)) sds_nil)))) (sw_or1 (st_ne hr.units (sd_attr (ok := ok_invariants) (B.at_invariants) (sd_var 10 (pv 10))) (sd_tup (sds_cons (sd_tup sds_nil) (sds_cons (sd_tup (sds_cons (sd_tup (sds_cons sd_int (sds_cons (sd_tup sds_nil) sds_nil))) sds_nil)) sds_nil)))))))) (ss_one (ss_ret (sd_bl.so))) ss_nil)))))))))
    (ss_one (ss_ret (sd_bl.so)))))⟩
def c_law : Fn := runDef 1 11 [] der_law.1
theorem ok_lawF {P : Program} {w : World} {K : PySem.W.Frag} {mg : Str → Option Value} {base : Heap} {cl : Cl} {f : Addr} {fd : FuncData} (B : Bnd K mg cl) (F : FunD K d_law.name d_law.qual d_law.params d_law.body d_law.scope [] [] f fd) : FnOk P w K mg base CX0 7 f fd ["script"] (spOf K cl c_law) :=
  def_ok F sc_law rfl rfl (by decide) fun cdv A outer s H E hr => der_law.2 P w K mg base cl B f cdv A outer s H E hr
end Hd
set_option Elab.async false
set_option linter.all false
set_option maxRecDepth 100000
set_option maxHeartbeats 4000000
set_option autoImplicit false
namespace Hd
open PySem PySem.Spec L2 PI
def stO (ds : List Int) (a b c : Int) : O := .lst [.fz (.lst (ds.map .int)), .fz (.int a), .fz (.int b), .fz (.int c)]
theorem if_t {c : MB} {g h : MS} {ρ ρ1 : Rho} {k : Bool} {r : Option (Fl × Rho)} (e : c ρ = some (k, ρ1)) (hk : k = true) (e2 : g ρ1 = r) : sIf c g h ρ = r := by
  unfold sIf
  rw [e, hk]
  exact e2
theorem if_f {c : MB} {g h : MS} {ρ ρ1 : Rho} {k : Bool} {r : Option (Fl × Rho)} (e : c ρ = some (k, ρ1)) (hk : k = false) (e2 : h ρ1 = r) : sIf c g h ρ = r := by
  unfold sIf
  rw [e, hk]
  exact e2
theorem fn_k {f : List D → Option D} {g : MDs} {ρ ρ1 : Rho} {ds : List D} {d : D} (e : g ρ = some (ds, ρ1)) (e2 : f ds = some d) : mFn f g ρ = some (d, ρ1) := by
  unfold mFn
  rw [e]
  dsimp only
  rw [e2]
theorem ds_k {g : MD} {f : MDs} {ρ ρ1 ρ2 : Rho} {ds : List D} {d : D} (e : g ρ = some (d, ρ1)) (e2 : f ρ1 = some (ds, ρ2)) : dsCons g f ρ = some (d :: ds, ρ2) := by
  unfold dsCons
  rw [e]
  dsimp only
  rw [e2]
theorem peek_k {g : MD} {ρ ρ1 : Rho} {d : D} (e : g (viewAll ρ) = some (d, ρ1)) (hi : d.imm = true := by rfl) : mPeek g ρ = some (d, ρ) := by
  unfold mPeek
  rw [e]
  dsimp only
  rw [hi]
theorem ret_k {g : MO} {ρ ρ1 : Rho} {o : O} (e : g ρ = some (o, ρ1)) : sRet g ρ = some (.rt o, ρ1) := by
  unfold sRet
  rw [e]
theorem item_k {i : Nat} {gk : MD} {g : MO} {ρ ρ1 ρ2 : Rho} {o o' : O} {k : Int} {os : List O} {j : Nat} (e : g ρ = some (o, ρ1)) (e2 : gk ρ1 = some (.int k, ρ2)) (e3 : ρ2[i]? = some (some (.lst os)) := by rfl) (e4 : ixN os.length k = some j := by rfl) (e5 : ρ1[i]? = some (some o') := by rfl) : sItem i gk g ρ = some (.nx, ρ2.set i (some (.lst (os.set j o)))) := by
  unfold sItem
  rw [e]
  dsimp only
  rw [e2]
  dsimp only
  rw [e3]
  dsimp only
  rw [e4, e5]
theorem mul_k {i j : Int} (h : -(2 ^ 64) < j ∧ j < 2 ^ 64) : dMulG (.int i) (.int j) = some (.int (i * j)) := by
  have : dMulG (.int i) (.int j) = dMul (.int i) (.int j) := rfl
  rw [this]
  have : (decide (-(2 ^ 64) < i ∧ i < 2 ^ 64 ∨ -(2 ^ 64) < j ∧ j < 2 ^ 64)) = true := decide_eq_true (.inr h)
  show (match decide (-(2 ^ 64) < i ∧ i < 2 ^ 64 ∨ -(2 ^ 64) < j ∧ j < 2 ^ 64) with
    | true => some (D.int (i * j))
    | false => none) = _
  rw [this]
theorem asg_k {i : Nat} {g : MO} {ρ ρ1 : Rho} {o : O} (e : g ρ = some (o, ρ1)) (hi : decide (i < ρ1.length) = true := by rfl) : sAsg i g ρ = some (.nx, ρ1.set i (some o)) := by
  unfold sAsg
  rw [e]
  dsimp only
  rw [hi]
theorem op_k {f : D → D → Option D} {ga gb : MD} {ρ ρ1 ρ2 : Rho} {x y d : D} (ha : ga ρ = some (x, ρ1)) (hb : gb ρ1 = some (y, ρ2)) (hf : f x y = some d) : mOp2 f ga gb ρ = some (d, ρ2) := by
  unfold mOp2
  rw [ha]
  dsimp only
  rw [hb]
  dsimp only
  rw [hf]
theorem fz_k {g : MD} {ρ ρ1 : Rho} {d : D} (e : g ρ = some (d, ρ1)) : oFz g ρ = some (.fz d, ρ1) := by
  unfold oFz
  rw [e]
theorem mod_k {i j : Int} (h : 0 < j) : dMod (.int i) (.int j) = some (.int (i % j)) := by
  simp [dMod, dInt2c, h]
theorem fdiv_k {i j : Int} (h : 0 < j) (h2 : j < 1073741824) : dFdiv (.int i) (.int j) = some (.int (i / j)) := by
  simp [dFdiv, dInt2c, h, h2]
theorem at0 {w x y z : D} : atI [w, x, y, z] 0 = some w := rfl
theorem at1 {w x y z : D} : atI [w, x, y, z] 1 = some x := rfl
theorem at2 {w x y z : D} : atI [w, x, y, z] 2 = some y := rfl
theorem at3 {w x y z : D} : atI [w, x, y, z] 3 = some z := rfl
theorem draw_ok (ds : List Int) (a b c most : Int) (h0 : 0 < most) (h1 : most < 1000) : ∃ v a' b' c', 0 ≤ v ∧ v < most ∧ c_u_law_draw [stO ds a b c, .fz (.int most)] = some (.fz (.int v), [some (stO ds a' b' c'), some (.fz (.int most))]) := by
  have h2 : most < 1073741824 := by omega
  by_cases hb : 0 < b
  · refine ⟨b % most, a, b / most, c + 1, Int.emod_nonneg _ (by omega), Int.emod_lt_of_pos _ h0, ?_⟩
    simp [c_u_law_draw, der_u_law_draw, runDef, PI.argsOk, stO, sSeq, sItem, sIf, sAsg, sRet, mC, oFz, mOp2, mPeek, bPeek, bOf, viewAll, mVar, dIx, mFn, dsCons, dsNil, fInt, fLen, fAbs, dAddG, dMod, dFdiv, dInt2c, dIntB, ixN, O.frz, O.frzs, D.imm, D.imms, finA, sSkip, mul_k, dPow, at0, at1, at2, at3, hb, h0, h2]
  by_cases hn : ds = []
  · subst hn
    refine ⟨((48271 + (c+1) * 69621) % 2147483647 * 16807 + (c+1)) % 2147483629 / 11 % most, a + 1, b, c + 1, Int.emod_nonneg _ (by omega), Int.emod_lt_of_pos _ h0, ?_⟩
    simp [c_u_law_draw, der_u_law_draw, runDef, PI.argsOk, stO, sSeq, sItem, sIf, sAsg, sRet, mC, oFz, mOp2, mPeek, bPeek, bOf, viewAll, mVar, dIx, mFn, dsCons, dsNil, fInt, fLen, fAbs, dAddG, dMod, dFdiv, dInt2c, dIntB, ixN, O.frz, O.frzs, D.imm, D.imms, finA, sSkip, mul_k, dPow, at0, at1, at2, at3, hb, h0, h2]
  have hp : 0 < ds.length := List.length_pos_iff.mpr hn
  have hp2 : (0 : Int) < (ds.length : Int) := by omega
  obtain ⟨y, hy⟩ : ∃ y : Int, atI (ds.map D.int) (a % (ds.length : Int)) = some (.int y) := by
    have e1 := Int.emod_nonneg a (show (ds.length : Int) ≠ 0 by omega)
    have e2 := Int.emod_lt_of_pos a hp2
    have e3 : (a % (ds.length : Int)).toNat < ds.length := by omega
    refine ⟨ds[(a % (ds.length : Int)).toNat], ?_⟩
    unfold atI ixN
    rw [if_pos e1, if_pos (by rw [List.length_map]; exact e2)]
    simp [e3]
  generalize hz : (if y < 0 then -y else y) = z
  by_cases hc : 1000000000000000000 ≤ z
  · refine ⟨z % most, a + 1, z / most, c + 1, Int.emod_nonneg _ (by omega), Int.emod_lt_of_pos _ h0, ?_⟩
    simp [c_u_law_draw, der_u_law_draw, runDef, PI.argsOk, stO, sSeq, sItem, sIf, sAsg, sRet, mC, oFz, mOp2, mPeek, bPeek, bOf, viewAll, mVar, dIx, mFn, dsCons, dsNil, fInt, fLen, fAbs, dAddG, dMod, dFdiv, dInt2c, dIntB, ixN, O.frz, O.frzs, D.imm, D.imms, finA, sSkip, mul_k, dPow, at0, at1, at2, at3, hb, h0, h2, hp, hy, hz, hc]
  · refine ⟨(((z + 1) * 48271 + (c+1) * 69621) % 2147483647 * 16807 + z / 97 + (c+1)) % 2147483629 / 11 % most, a + 1, b, c + 1, Int.emod_nonneg _ (by omega), Int.emod_lt_of_pos _ h0, ?_⟩
    simp [c_u_law_draw, der_u_law_draw, runDef, PI.argsOk, stO, sSeq, sItem, sIf, sAsg, sRet, mC, oFz, mOp2, mPeek, bPeek, bOf, viewAll, mVar, dIx, mFn, dsCons, dsNil, fInt, fLen, fAbs, dAddG, dMod, dFdiv, dInt2c, dIntB, ixN, O.frz, O.frzs, D.imm, D.imms, finA, sSkip, mul_k, dPow, at0, at1, at2, at3, hb, h0, h2, hp, hy, hz, hc]
end Hd
set_option Elab.async false
set_option linter.all false
set_option maxRecDepth 100000
set_option maxHeartbeats 4000000
set_option autoImplicit false
namespace Hd
open PySem PySem.Spec L2 PI
theorem argsOk_st {ds : List Int} {a b c : Int} {as : List O} : PI.argsOk [0] 0 (stO ds a b c :: as) = PI.argsOk [0] 1 as := rfl
def spK : List Key := [.inr "name", .inr "log", .inr "swapped", .inr "shift", .inr "by", .inr "pauses", .inr "need", .inr "many"]
def spD (nm : Str) (log : Int) (sw : Bool) (sh by_ many : Int) : D := .dct spK [.str nm, .int log, .bl sw, .int sh, .int by_, .int 0, .non, .int many]
def spO (nm : Str) (log : Int) (sw : Bool) (sh by_ many : Int) : O := .dct spK [.fz (.str nm), .fz (.int log), .fz (.bl sw), .fz (.int sh), .fz (.int by_), .fz (.int 0), .fz .non, .fz (.int many)]
theorem call0 {fn : Fn} {st st' : O} {r : O} {n : Int} {ρ : Rho} (h : fn [st, .fz (.int n)] = some (r, [some st', some (.fz (.int n))])) : mCall fn [some 0, none] (aLend 0 (aCons (oFz (mC (.int n))) aNil)) (some st :: ρ) = some (r, some st' :: ρ) := call2 h
theorem frz_k {g : MO} {ρ ρ1 : Rho} {o : O} (e : g ρ = some (o, ρ1)) : mFrz g ρ = some (o.frz, ρ1) := by
  unfold mFrz
  rw [e]
theorem dw {ds : List Int} {a b c a' b' c' v n : Int} {ρ : Rho} (e : c_u_law_draw [stO ds a b c, .fz (.int n)] = some (.fz (.int v), [some (stO ds a' b' c'), some (.fz (.int n))])) : mFrz (mCall c_u_law_draw [some 0, none] (aLend 0 (aCons (oFz (mC (.int n))) aNil))) (some (stO ds a b c) :: ρ) = some (.int v, some (stO ds a' b' c') :: ρ) := frz_k (call2 e)
theorem put_c {i : Nat} {gk g : MD} {ρ ρ1 : Rho} {d : D} {r : Option (Fl × Rho)} (e : g ρ = some (d, ρ1)) (e2 : sPut i gk (fun _ => some (d, ρ1)) ρ = r) : sPut i gk g ρ = r := by
  rw [← e2]
  unfold sPut
  rw [e]
theorem and_f {g h : MD} {ρ ρ1 : Rho} (e : g ρ = some (.bl false, ρ1)) : mAnd g h ρ = some (.bl false, ρ1) := by
  unfold mAnd
  rw [e]
theorem and_t {g h : MD} {ρ ρ1 : Rho} {r : Option (D × Rho)} (e : g ρ = some (.bl true, ρ1)) (e2 : h ρ1 = r) : mAnd g h ρ = r := by
  rw [← e2]
  unfold mAnd
  rw [e]
theorem b_k {g : MD} {ρ ρ1 : Rho} {k : Bool} (e : g ρ = some (.bl k, ρ1)) : bOf g ρ = some (k, ρ1) := by
  unfold bOf
  rw [e]
theorem if_c {c : MB} {g h : MS} {ρ ρ1 : Rho} {k : Bool} {r : Option (Fl × Rho)} (e : c ρ = some (k, ρ1)) (e2 : sIf (fun _ => some (k, ρ1)) g h ρ = r) : sIf c g h ρ = r := by
  rw [← e2]
  unfold sIf
  rw [e]
theorem two_ok (ds : List Int) (a b c : Int) : ∃ a' b' c' log sw sh by_ many, (log = 0 ∧ sw = false ∨ log = 1) ∧ (sh = 0 ∨ sh = 1 ∨ sh = 3 ∨ sh = -2) ∧ (by_ = 1 ∨ by_ = 2) ∧ (many = 1 ∨ many = 2 ∨ many = 3) ∧
    c_u_law_two [stO ds a b c] = some (.fz (.tup [spD "l" 0 false 0 by_ many, spD "r" log sw sh by_ many]), [some (stO ds a' b' c')]) := by
  obtain ⟨v1, a1, b1, c1, l1, u1, e1⟩ := draw_ok ds a b c 3 (by decide) (by decide)
  obtain ⟨v2, a2, b2, c2, l2, u2, e2⟩ := draw_ok ds a1 b1 c1 5 (by decide) (by decide)
  obtain ⟨v3, a3, b3, c3, l3, u3, e3⟩ := draw_ok ds a2 b2 c2 2 (by decide) (by decide)
  obtain ⟨v4, a4, b4, c4, l4, u4, e4⟩ := draw_ok ds a3 b3 c3 2 (by decide) (by decide)
  obtain ⟨v5, a5, b5, c5, l5, u5, e5⟩ := draw_ok ds a3 b3 c3 4 (by decide) (by decide)
  obtain ⟨v6, a6, b6, c6, l6, u6, e6⟩ := draw_ok ds a4 b4 c4 4 (by decide) (by decide)
  have hs : ∃ sh, (sh = 0 ∨ sh = 1 ∨ sh = 3 ∨ sh = -2) ∧ dIx (.lst [.int 0, .int 0, .int 1, .int 3, .int (-2)]) (.int v2) = some (.int sh) := by
    have : v2 = 0 ∨ v2 = 1 ∨ v2 = 2 ∨ v2 = 3 ∨ v2 = 4 := by omega
    rcases this with rfl | rfl | rfl | rfl | rfl
    · exact ⟨0, by decide, rfl⟩
    · exact ⟨0, by decide, rfl⟩
    · exact ⟨1, by decide, rfl⟩
    · exact ⟨3, by decide, rfl⟩
    · exact ⟨-2, by decide, rfl⟩
  obtain ⟨sh, hsh, hix⟩ := hs
  have hv3 : v3 = 0 ∨ v3 = 1 := by omega
  obtain ⟨k5, hk5⟩ : ∃ k, decide (v5 = 0) = k := ⟨_, rfl⟩
  obtain ⟨k6, hk6⟩ : ∃ k, decide (v6 = 0) = k := ⟨_, rfl⟩
  obtain ⟨k4, hk4⟩ : ∃ k, decide (v4 = 0) = k := ⟨_, rfl⟩
  rcases hv3 with rfl | rfl
  · refine ⟨a5, b5, c5, 0, false, sh, if k5 then 2 else 1, 1 + v1, .inl ⟨rfl, rfl⟩, hsh, by cases k5 <;> simp, by omega, ?_⟩
    refine run_rt (ρ' := [some (stO ds a5 b5 c5), some (.fz (spD "l" 0 false 0 (if k5 then 2 else 1) (1 + v1))), some (.fz (spD "r" 0 false sh (if k5 then 2 else 1) (1 + v1))), some (.fz (.int (1 + v1)))]) ?_
    unfold der_u_law_two
    dsimp only
    refine seq_nx (ρ1 := [some (stO ds a b c), some (spO "l" 0 false 0 1 3), none, none]) (by kernel_rfl) ?_
    refine seq_nx (ρ1 := [some (stO ds a b c), some (spO "l" 0 false 0 1 3), some (spO "r" 0 false 0 1 3), none]) (by kernel_rfl) ?_
    refine seq_nx (asg_k (fz_k (op_k rfl (dw e1) rfl))) ?_
    refine seq_nx (ρ1 := [some (stO ds a1 b1 c1), some (spO "l" 0 false 0 1 (1 + v1)), some (spO "r" 0 false 0 1 3), some (.fz (.int (1 + v1)))]) (by kernel_rfl) ?_
    refine seq_nx (ρ1 := [some (stO ds a1 b1 c1), some (spO "l" 0 false 0 1 (1 + v1)), some (spO "r" 0 false 0 1 (1 + v1)), some (.fz (.int (1 + v1)))]) (by kernel_rfl) ?_
    refine seq_nx (ρ1 := [some (stO ds a2 b2 c2), some (spO "l" 0 false 0 1 (1 + v1)), some (spO "r" 0 false sh 1 (1 + v1)), some (.fz (.int (1 + v1)))]) (put_c (op_k rfl (dw e2) hix) (by kernel_rfl)) ?_
    refine seq_nx (ρ1 := [some (stO ds a3 b3 c3), some (spO "l" 0 false 0 1 (1 + v1)), some (spO "r" 0 false sh 1 (1 + v1)), some (.fz (.int (1 + v1)))]) (put_c (dw e3) (by kernel_rfl)) ?_
    refine seq_nx (ρ1 := [some (stO ds a3 b3 c3), some (spO "l" 0 false 0 1 (1 + v1)), some (spO "r" 0 false sh 1 (1 + v1)), some (.fz (.int (1 + v1)))]) (put_c (and_f (ρ1 := [some (stO ds a3 b3 c3), some (spO "l" 0 false 0 1 (1 + v1)), some (spO "r" 0 false sh 1 (1 + v1)), some (.fz (.int (1 + v1)))]) (by kernel_rfl)) (by kernel_rfl)) ?_
    refine seq_nx (ρ1 := [some (stO ds a5 b5 c5), some (spO "l" 0 false 0 (if k5 then 2 else 1) (1 + v1)), some (spO "r" 0 false sh (if k5 then 2 else 1) (1 + v1)), some (.fz (.int (1 + v1)))]) (if_c (b_k (op_k (dw e5) rfl (d := .bl k5) (by rw [← hk5]; rfl))) ?_) ?_
    · cases k5 <;> kernel_rfl
    · kernel_rfl
  · refine ⟨a6, b6, c6, 1, k4, sh, if k6 then 2 else 1, 1 + v1, .inr rfl, hsh, by cases k6 <;> simp, by omega, ?_⟩
    refine run_rt (ρ' := [some (stO ds a6 b6 c6), some (.fz (spD "l" 0 false 0 (if k6 then 2 else 1) (1 + v1))), some (.fz (spD "r" 1 k4 sh (if k6 then 2 else 1) (1 + v1))), some (.fz (.int (1 + v1)))]) ?_
    unfold der_u_law_two
    dsimp only
    refine seq_nx (ρ1 := [some (stO ds a b c), some (spO "l" 0 false 0 1 3), none, none]) (by kernel_rfl) ?_
    refine seq_nx (ρ1 := [some (stO ds a b c), some (spO "l" 0 false 0 1 3), some (spO "r" 0 false 0 1 3), none]) (by kernel_rfl) ?_
    refine seq_nx (asg_k (fz_k (op_k rfl (dw e1) rfl))) ?_
    refine seq_nx (ρ1 := [some (stO ds a1 b1 c1), some (spO "l" 0 false 0 1 (1 + v1)), some (spO "r" 0 false 0 1 3), some (.fz (.int (1 + v1)))]) (by kernel_rfl) ?_
    refine seq_nx (ρ1 := [some (stO ds a1 b1 c1), some (spO "l" 0 false 0 1 (1 + v1)), some (spO "r" 0 false 0 1 (1 + v1)), some (.fz (.int (1 + v1)))]) (by kernel_rfl) ?_
    refine seq_nx (ρ1 := [some (stO ds a2 b2 c2), some (spO "l" 0 false 0 1 (1 + v1)), some (spO "r" 0 false sh 1 (1 + v1)), some (.fz (.int (1 + v1)))]) (put_c (op_k rfl (dw e2) hix) (by kernel_rfl)) ?_
    refine seq_nx (ρ1 := [some (stO ds a3 b3 c3), some (spO "l" 0 false 0 1 (1 + v1)), some (spO "r" 1 false sh 1 (1 + v1)), some (.fz (.int (1 + v1)))]) (put_c (dw e3) (by kernel_rfl)) ?_
    refine seq_nx (ρ1 := [some (stO ds a4 b4 c4), some (spO "l" 0 false 0 1 (1 + v1)), some (spO "r" 1 k4 sh 1 (1 + v1)), some (.fz (.int (1 + v1)))]) (put_c (and_t (ρ1 := [some (stO ds a3 b3 c3), some (spO "l" 0 false 0 1 (1 + v1)), some (spO "r" 1 false sh 1 (1 + v1)), some (.fz (.int (1 + v1)))]) (by kernel_rfl) (op_k (dw e4) rfl (d := .bl k4) (by rw [← hk4]; rfl))) (by kernel_rfl)) ?_
    refine seq_nx (ρ1 := [some (stO ds a6 b6 c6), some (spO "l" 0 false 0 (if k6 then 2 else 1) (1 + v1)), some (spO "r" 1 k4 sh (if k6 then 2 else 1) (1 + v1)), some (.fz (.int (1 + v1)))]) (if_c (b_k (op_k (dw e6) rfl (d := .bl k6) (by rw [← hk6]; rfl))) ?_) ?_
    · cases k6 <;> kernel_rfl
    · kernel_rfl
end Hd
set_option Elab.async false
set_option linter.all false
set_option maxRecDepth 100000
set_option maxHeartbeats 4000000
set_option autoImplicit false
namespace Hd
open PySem PySem.Spec L2 PI
def lettersS : Str := "abcdefghijklmnopqrstuvwxyz"
def shU : Nat → Str
  | 0 => ""
  | 1 => "q"
  | 2 => "qx"
  | _ => "qxz"
def chS (n : Nat) : Str := ⟨#[lettersS.cps.getD n 0]⟩
def fW (f : Bool) (i j u : Nat) : List Str := (List.range 6).map fun k => let c := chS ((i + k * (1 + 2 * j)) % 26)
  match f with
  | true => shU u ++ c
  | false => c ++ shU u
abbrev compA : MO := oComp (iRange1 (mVar 1)) (List.map (fun x => x.snd) [(Str.ofString "k", 6)]) (gSet 6) bYes (mOp2 dAddG (mVar 5) (mOp2 dIx (mVar 2) (mOp2 dMod (mFn fInt (dsCons (mOp2 dAddG (mVar 3) (mOp2 dMulG (mVar 6) (mVar 4))) dsNil)) (mC (D.int 26)))))
abbrev compB : MO := oComp (iRange1 (mVar 1)) (List.map (fun x => x.snd) [(Str.ofString "k", 6)]) (gSet 6) bYes (mOp2 dAddG (mOp2 dIx (mVar 2) (mOp2 dMod (mFn fInt (dsCons (mOp2 dAddG (mVar 3) (mOp2 dMulG (mVar 6) (mVar 4))) dsNil)) (mC (D.int 26)))) (mVar 5))
def rW (st : O) (i j u : Nat) : Rho := [some st, some (.fz (.int 6)), some (.fz (.str lettersS)), some (.fz (.int (i : Int))), some (.fz (.int (1 + 2 * (j : Int)))), some (.fz (.str (shU u))), none]
theorem tab {α : Type} {F G : Nat → α} {n : Nat} (h : (List.range n).map F = (List.range n).map G) (i : Nat) (hi : i < n) : F i = G i := by
  have := congrArg (fun l => l[i]?) h
  simp [List.getElem?_range hi] at this
  exact this
theorem tabA (st : O) : (List.range 26).map (fun i => (List.range 6).map fun j => (List.range 4).map fun u => compA (rW st i j u)) = (List.range 26).map (fun i => (List.range 6).map fun j => (List.range 4).map fun u => some (O.lst ((fW true i j u).map fun s => .fz (.str s)), rW st i j u)) := by kernel_rfl
theorem tabB (st : O) : (List.range 26).map (fun i => (List.range 6).map fun j => (List.range 4).map fun u => compB (rW st i j u)) = (List.range 26).map (fun i => (List.range 6).map fun j => (List.range 4).map fun u => some (O.lst ((fW false i j u).map fun s => .fz (.str s)), rW st i j u)) := by kernel_rfl
theorem tabS : (List.range 26).all (fun i => (List.range 6).all fun j => (List.range 4).all fun u => (fW true i j u).all PyData.strOk && (fW false i j u).all PyData.strOk) = true := by decide +kernel
theorem slice_k {g : MD} {l h : Rho → Option (Option Int × Rho)} {ρ ρ1 ρ2 ρ3 : Rho} {x d : D} {lo hi : Option Int} (e : g ρ = some (x, ρ1)) (el : l ρ1 = some (lo, ρ2)) (eh : h ρ2 = some (hi, ρ3)) (ed : dSlice x lo hi = some d) : mSlice g l h ρ = some (d, ρ3) := by
  unfold mSlice
  rw [e]
  dsimp only
  rw [el]
  dsimp only
  rw [eh]
  dsimp only
  rw [ed]
theorem psome_k {g : MD} {ρ ρ1 : Rho} {i : Int} (e : g ρ = some (.int i, ρ1)) : pSome g ρ = some (some i, ρ1) := by
  unfold pSome
  rw [e]
theorem words_ok (ds : List Int) (a b c : Int) : ∃ (a' b' c' : Int) (ns : List Str), ns.length = 6 ∧ ns.all PyData.strOk = true ∧ c_u_law_words [stO ds a b c, .fz (.int 6)] = some (.lst (ns.map fun s => .fz (.str s)), [some (stO ds a' b' c'), some (.fz (.int 6))]) := by
  obtain ⟨v1, a1, b1, c1, l1, u1, e1⟩ := draw_ok ds a b c 26 (by decide) (by decide)
  obtain ⟨v2, a2, b2, c2, l2, u2, e2⟩ := draw_ok ds a1 b1 c1 6 (by decide) (by decide)
  obtain ⟨v3, a3, b3, c3, l3, u3, e3⟩ := draw_ok ds a2 b2 c2 4 (by decide) (by decide)
  obtain ⟨v4, a4, b4, c4, l4, u4, e4⟩ := draw_ok ds a3 b3 c3 2 (by decide) (by decide)
  obtain ⟨i, rfl⟩ : ∃ i : Nat, v1 = (i : Int) := ⟨v1.toNat, by omega⟩
  obtain ⟨j, rfl⟩ : ∃ i : Nat, v2 = (i : Int) := ⟨v2.toNat, by omega⟩
  obtain ⟨u, rfl⟩ : ∃ i : Nat, v3 = (i : Int) := ⟨v3.toNat, by omega⟩
  have hi : i < 26 := by omega
  have hj : j < 6 := by omega
  have hu : u < 4 := by omega
  obtain ⟨k4, hk4⟩ : ∃ k, decide (v4 = 0) = k := ⟨_, rfl⟩
  have hsl : dSlice (.str "qxz") none (some (u : Int)) = some (.str (shU u)) := by
    match u, hu with
    | 0, _ => kernel_rfl
    | 1, _ => kernel_rfl
    | 2, _ => kernel_rfl
    | 3, _ => kernel_rfl
  have tA := tab (tab (tab (tabA (stO ds a4 b4 c4)) i hi) j hj) u hu
  have tB := tab (tab (tab (tabB (stO ds a4 b4 c4)) i hi) j hj) u hu
  have tS := List.all_eq_true.mp (List.all_eq_true.mp (List.all_eq_true.mp tabS i (List.mem_range.mpr hi)) j (List.mem_range.mpr hj)) u (List.mem_range.mpr hu)
  obtain ⟨tS1, tS2⟩ := Bool.and_eq_true_iff.mp tS
  refine ⟨a4, b4, c4, fW k4 i j u, by simp [fW], by cases k4 <;> assumption, ?_⟩
  refine run_rt (ρ' := rW (stO ds a4 b4 c4) i j u) ?_
  unfold der_u_law_words
  dsimp only
  refine seq_nx (ρ1 := [some (stO ds a b c), some (.fz (.int 6)), some (.fz (.str lettersS)), none, none, none, none]) (by kernel_rfl) ?_
  refine seq_nx (asg_k (fz_k (dw e1))) ?_
  refine seq_nx (asg_k (fz_k (op_k rfl (op_k rfl (dw e2) (mul_k (by omega))) rfl))) ?_
  refine seq_nx (asg_k (fz_k (slice_k rfl rfl (psome_k (dw e3)) hsl))) ?_
  cases k4 with
  | true => exact seq_rt (if_t (b_k (op_k (dw e4) rfl (d := .bl true) (by rw [← hk4]; rfl))) rfl (ret_k tA))
  | false => exact seq_nx (if_f (b_k (op_k (dw e4) rfl (d := .bl false) (by rw [← hk4]; rfl))) rfl rfl) (ret_k tB)
end Hd
set_option Elab.async false
set_option linter.all false
set_option maxRecDepth 100000
set_option maxHeartbeats 4000000
set_option autoImplicit false
namespace Hd
open PySem PySem.Spec L2 PI
def endA (n : Nat) (pr : List Nat) (as : List O) (x : Option (Fl × Rho)) : Option (O × Rho) := match x with
  | some (.nx, ρ') => (match decide (n ≤ ρ'.length) with
    | true => some (.fz .non, finA pr 0 as ρ')
    | false => none)
  | some (.rt o, ρ') => (match decide (n ≤ ρ'.length) with
    | true => some (o, finA pr 0 as ρ')
    | false => none)
  | _ => none
theorem run_end {np n : Nat} {pr : List Nat} {body : MS} {as : List O} {x : Option (Fl × Rho)} {r : Option (O × Rho)} (e : body (as.map some ++ List.replicate (n - np) none) = x) (e2 : endA n pr as x = r) (h1 : (decide (as.length = np) && PI.argsOk pr 0 as) = true := by rfl) : runDef np n pr body as = r := by
  rw [← e2, ← e]
  unfold runDef
  rw [h1]
  rfl
theorem seq_end {g h : MS} {ρ ρ1 : Rho} (e : g ρ = some (.nx, ρ1)) : sSeq g h ρ = h ρ1 := seq_nx e rfl
abbrev T : List D → D := .tup
abbrev S : Str → D := .str
def numD (k : Int) : D := if k < 0 then T [S "scale", .int (-1), T [S "number", .int (-k)]] else T [S "number", .int k]
def addD (x : Str) (k : Int) : D := T [S "set", T [T [S x, T [S "plus", T [S "name", S x], numD k]]]]
def nmD (x : Str) : D := T [S "name", S x]
def orderD (log : Int) (sw : Bool) (a w : Str) : List D :=
  let o := [T [S "array", S a], T [S "array", S w]].take (1 + log.toNat)
  if sw then o.reverse else o
def deedsD (nm : Str) (log : Int) (sw : Bool) (sh by_ : Int) (x a w k t i : Str) : List D :=
  let items : List D := T [S "int", S x] :: orderD log sw a w
  let places : D := T [T [S "int", S t], T [S "int", S i]]
  let lg : List D := if log = 1 then [T [S "push", nmD k, S w]] else []
  let low := numD sh
  let less : D := T [S "if", T [S "less", low, nmD x], T [addD x (-by_)], T []]
  let told : D := if by_ = 1 then T [S "minus", nmD x, low] else T [S "length", S a]
  let results : D := T [S "result.x", S "result.y"]
  let put : D := T [S ("put" ++ nm), T (items ++ [T [S "int", S k]]), results, places, T [], T [], T [], T [], T ([T [S "push", nmD k, S a]] ++ lg ++ [addD x by_, T [S "give", T [nmD x, told]]])]
  let take_ : D := T [S ("take" ++ nm), T items, results, places, T [], T [], T [], T [], T [T [S "pop", S t, S a], less, T [S "give", T [nmD x, nmD t]]]]
  let sums : D := T [S "set", T [T [S t, T [S "plus", nmD t, T [S "item", S a, nmD i]]]]]
  let loop : D := T [S "while", T [S "less", nmD i, T [S "length", S a]], T [sums, addD i 1]]
  let walk : D := T [S ("walk" ++ nm), T items, results, places, T [], T [], T [], T [], T [loop, T [S "give", T [nmD x, nmD t]]]]
  [put, take_, walk]
def coreD (nm : Str) (log : Int) (sw : Bool) (sh by_ many : Int) (x a w k t i : Str) : D := T ((deedsD nm log sw sh by_ x a w k t i).take many.toNat)
def partD (nm : Str) (log sh many : Int) : D := T [.int 1, .int (1 + log), T [], T ((["put" ++ nm, "take" ++ nm, "walk" ++ nm].take many.toNat).map S), T (.int sh :: if log = 1 then [T [], T []] else [T []])]
theorem side_ok (nm : Str) (log : Int) (sw : Bool) (sh by_ many : Int) (hn : nm = "l" ∧ log = 0 ∧ sw = false ∧ sh = 0 ∨ nm = "r" ∧ (log = 0 ∧ sw = false ∨ log = 1) ∧ (sh = 0 ∨ sh = 1 ∨ sh = 3 ∨ sh = -2)) (hb : by_ = 1 ∨ by_ = 2) (hm : many = 1 ∨ many = 2 ∨ many = 3) (ds : List Int) (a b c : Int) :
    ∃ (a' b' c' : Int) (x a1 w k t i : Str), ([x, a1, w, k, t, i].all PyData.strOk) = true ∧ c_u_law_side [stO ds a b c, .fz (spD nm log sw sh by_ many)] = some (.fz (T [coreD nm log sw sh by_ many x a1 w k t i, partD nm log sh many]), [some (stO ds a' b' c'), some (.fz (spD nm log sw sh by_ many))]) := by
  obtain ⟨a', b', c', ns, hl, hs, e⟩ := words_ok ds a b c
  obtain ⟨x, a1, w, k, t, i, rfl⟩ : ∃ x a1 w k t i, ns = [x, a1, w, k, t, i] := by
    match ns, hl with
    | [x, a1, w, k, t, i], _ => exact ⟨x, a1, w, k, t, i, rfl⟩
  refine ⟨a', b', c', x, a1, w, k, t, i, hs, ?_⟩
  have hu : ∀ sp : D, sUnp (mFrz (mCall c_u_law_words [some 0, none] (aLend 0 (aCons (oFz (mC (D.int 6))) aNil)))) (gTupD 6 (gsCons (gSet 2) (gsCons (gSet 3) (gsCons (gSet 4) (gsCons (gSet 5) (gsCons (gSet 6) (gsCons (gSet 7) gsNil)))))))
      (some (stO ds a b c) :: some (.fz sp) :: List.replicate 26 none) = some (.nx, [some (stO ds a' b' c'), some (.fz sp), some (.fz (S x)), some (.fz (S a1)), some (.fz (S w)), some (.fz (S k)), some (.fz (S t)), some (.fz (S i))] ++ List.replicate 20 none) := fun sp => by
    unfold sUnp
    rw [frz_k (call2 e)]
    rfl
  unfold c_u_law_side
  refine run_end rfl ?_
  unfold der_u_law_side
  show endA 28 [0] _ (sSeq _ _ (some (stO ds a b c) :: some (.fz (spD nm log sw sh by_ many)) :: List.replicate 26 none)) = _
  rw [seq_end (hu _)]
  rcases hb with rfl | rfl <;> rcases hm with rfl | rfl | rfl <;> rcases hn with ⟨rfl, rfl, rfl, rfl⟩ | ⟨rfl, ⟨rfl, rfl⟩ | rfl, rfl | rfl | rfl | rfl⟩
  all_goals (try cases sw)
  all_goals kernel_rfl
end Hd
set_option Elab.async false
set_option linter.all false
set_option maxRecDepth 100000
set_option maxHeartbeats 4000000
set_option autoImplicit false
namespace Hd
open PySem PySem.Spec L2 PI
mutual
def okD : Nat → D → Bool
  | _, .non => true
  | _, .bl _ => true
  | _, .int _ => true
  | _, .str s => PyData.strOk s
  | n, .tup ds => (match n with | n + 1 => okDs n ds | 0 => false)
  | n, .lst ds => (match n with | n + 1 => okDs n ds | 0 => false)
  | _, _ => false
def okDs : Nat → List D → Bool
  | _, [] => true
  | n, d :: ds => okD n d && okDs n ds
end
mutual
theorem okD_py : ∀ (d : D) (n : Nat), okD n d = true → ∃ p, d.py = some p ∧ p.canLay0 = true ∧ p.depth ≤ n + 1
  | .non, n, _ => ⟨.none, rfl, rfl, by simp [PyData.depth]⟩
  | .bl _, n, _ => ⟨.bool _, rfl, rfl, by simp [PyData.depth]⟩
  | .int _, n, _ => ⟨.int _, rfl, rfl, by simp [PyData.depth]⟩
  | .str s, n, h => ⟨.str s, rfl, by simpa [okD, PyData.canLay0] using h, by simp [PyData.depth]⟩
  | .tup ds, 0, h => by simp [okD] at h
  | .tup ds, n + 1, h => by
    obtain ⟨ps, e1, e2, e3⟩ := okDs_py ds n (by simpa [okD] using h)
    exact ⟨.tuple ps, by simp [D.py, e1], by simpa [PyData.canLay0] using e2, by simp [PyData.depth]; omega⟩
  | .lst ds, 0, h => by simp [okD] at h
  | .lst ds, n + 1, h => by
    obtain ⟨ps, e1, e2, e3⟩ := okDs_py ds n (by simpa [okD] using h)
    exact ⟨.list ps, by simp [D.py, e1], by simpa [PyData.canLay0] using e2, by simp [PyData.depth]; omega⟩
  | .rol _, _, h => by simp [okD] at h
  | .dct _ _, _, h => by simp [okD] at h
  | .obj _ _ _, _, h => by simp [okD] at h
theorem okDs_py : ∀ (ds : List D) (n : Nat), okDs n ds = true → ∃ ps, D.pys ds = some ps ∧ PyData.canLayAll0 ps = true ∧ PyData.depthAll ps ≤ n + 1
  | [], n, _ => ⟨[], rfl, rfl, by simp [PyData.depthAll]⟩
  | d :: ds, n, h => by
    simp only [okDs, Bool.and_eq_true] at h
    obtain ⟨p, a1, a2, a3⟩ := okD_py d n h.1
    obtain ⟨ps, b1, b2, b3⟩ := okDs_py ds n h.2
    exact ⟨p :: ps, by simp [D.pys, a1, b1], by simp [PyData.canLayAll0, a2, b2], by simp [PyData.depthAll]; omega⟩
end
theorem ne_refl {xs : List D} {n : Nat} (h : okD n (.tup xs) = true) (hn : n ≤ 63) : dNeD (.tup xs) (.tup xs) = some (.bl false) := by
  obtain ⟨p, e1, e2, e3⟩ := okD_py _ n h
  have es : SeqAt.shaped p = true := by
    unfold SeqAt.shaped
    rw [e2, Bool.true_and]
    exact decide_eq_true (by omega)
  have e4 : dEq (.tup xs) (.tup xs) = some true := by
    show (match (D.tup xs).py, (D.tup xs).py with
      | some p, some q => (match SeqAt.shaped p && SeqAt.shaped q with
        | true => some (PyData.eqv p q)
        | false => none)
      | _, _ => none) = some true
    rw [e1]
    dsimp only
    rw [es]
    show some (PyData.eqv p p) = some true
    rw [SeqAt.eqv_refl p e2]
  unfold dNeD
  rw [e4]
  rfl

theorem cs0 : PyData.strOk "array" = true := by decide +kernel
theorem cs1 : PyData.strOk "int" = true := by decide +kernel
theorem cs2 : PyData.strOk "push" = true := by decide +kernel
theorem cs3 : PyData.strOk "name" = true := by decide +kernel
theorem cs4 : PyData.strOk "scale" = true := by decide +kernel
theorem cs5 : PyData.strOk "number" = true := by decide +kernel
theorem cs6 : PyData.strOk "set" = true := by decide +kernel
theorem cs7 : PyData.strOk "plus" = true := by decide +kernel
theorem cs8 : PyData.strOk "if" = true := by decide +kernel
theorem cs9 : PyData.strOk "less" = true := by decide +kernel
theorem cs10 : PyData.strOk "minus" = true := by decide +kernel
theorem cs11 : PyData.strOk "length" = true := by decide +kernel
theorem cs12 : PyData.strOk "result.x" = true := by decide +kernel
theorem cs13 : PyData.strOk "result.y" = true := by decide +kernel
theorem cs14 : PyData.strOk "give" = true := by decide +kernel
theorem cs15 : PyData.strOk "pop" = true := by decide +kernel
theorem cs16 : PyData.strOk "while" = true := by decide +kernel
theorem cs17 : PyData.strOk "item" = true := by decide +kernel
theorem cs_putl : PyData.strOk ("put" ++ "l") = true := by decide +kernel
theorem cs_takel : PyData.strOk ("take" ++ "l") = true := by decide +kernel
theorem cs_walkl : PyData.strOk ("walk" ++ "l") = true := by decide +kernel
theorem cs_putr : PyData.strOk ("put" ++ "r") = true := by decide +kernel
theorem cs_taker : PyData.strOk ("take" ++ "r") = true := by decide +kernel
theorem cs_walkr : PyData.strOk ("walk" ++ "r") = true := by decide +kernel
theorem ok_take : ∀ (n : Nat) (xs : List D) (m : Nat), okDs n xs = true → okDs n (xs.take m) = true
  | n, [], m, _ => by simp [okDs]
  | n, x :: xs, 0, _ => by simp [okDs]
  | n, x :: xs, m + 1, h => by
    simp only [okDs, Bool.and_eq_true, List.take_succ_cons] at h ⊢
    exact ⟨h.1, ok_take n xs m h.2⟩
theorem ok_num (n : Nat) (k : Int) : okD (n + 2) (numD k) = true := by
  unfold numD
  split <;> simp [okD, okDs, cs4, cs5]
theorem ok_add (n : Nat) (x : Str) (k : Int) (hx : PyData.strOk x = true) : okD (n + 6) (addD x k) = true := by
  unfold addD
  simp [okD, okDs, cs6, cs7, cs3, hx, ok_num]
theorem ok_nm (n : Nat) (x : Str) (hx : PyData.strOk x = true) : okD (n + 1) (nmD x) = true := by
  simp [nmD, okD, okDs, cs3, hx]
theorem ok_core (nm : Str) (log : Int) (sw : Bool) (sh by_ many : Int) (x a w k t i : Str) (hs : ([x, a, w, k, t, i].all PyData.strOk) = true) (hn : nm = "l" ∨ nm = "r") (hl : log = 0 ∨ log = 1) (hb : by_ = 1 ∨ by_ = 2) : okD 20 (coreD nm log sw sh by_ many x a w k t i) = true := by
  simp only [List.all_cons, List.all_nil, Bool.and_true, Bool.and_eq_true] at hs
  obtain ⟨h1, h2, h3, h4, h5, h6⟩ := hs
  unfold coreD
  simp only [okD]
  apply ok_take
  have ho : okDs 17 (orderD log sw a w) = true := by
    rcases hl with rfl | rfl <;> cases sw <;> simp [orderD, okD, okDs, cs0, h2, h3]
  have ho2 : ∀ k', PyData.strOk k' = true → okDs 17 (orderD log sw a w ++ [.tup [.str "int", .str k']]) = true := fun k' hk => by
    rcases hl with rfl | rfl <;> cases sw <;> simp [orderD, okD, okDs, cs0, cs1, h2, h3, hk]
  have hA := ok_add 9 x by_ h1
  have hA2 := ok_add 9 x (-by_) h1
  have hA3 := ok_add 9 i 1 h6
  rcases hn with rfl | rfl <;> rcases hl with rfl | rfl <;> rcases hb with rfl | rfl <;>
    simp [deedsD, okD, okDs, h1, h2, h3, h4, h5, h6, cs0, cs1, cs2, cs3, cs4, cs5, cs6, cs7, cs8, cs9, cs10, cs11, cs12, cs13, cs14, cs15, cs16, cs17, cs_putl, cs_takel, cs_walkl, cs_putr, cs_taker, cs_walkr, ok_num, ok_nm, ok_add, ho, ho2] 
theorem ok_part (nm : Str) (log sh many : Int) (hn : nm = "l" ∨ nm = "r") : okD 20 (partD nm log sh many) = true := by
  have h1 : okDs 18 ((["put" ++ nm, "take" ++ nm, "walk" ++ nm].take many.toNat).map S) = true := by
    rw [List.map_take]
    apply ok_take
    rcases hn with rfl | rfl <;> decide +kernel
  have h2 : okDs 18 (.int sh :: if log = 1 then [T [], T []] else [T []]) = true := by
    split <;> simp [okDs, okD]
  show (true && (true && (true && (okDs 18 ((["put" ++ nm, "take" ++ nm, "walk" ++ nm].take many.toNat).map S) && (okDs 18 (.int sh :: if log = 1 then [T [], T []] else [T []]) && true))))) = true
  rw [h1, h2]
  rfl
end Hd
set_option Elab.async false
set_option linter.all false
set_option maxRecDepth 100000
set_option maxHeartbeats 4000000
set_option autoImplicit false
namespace Hd
open PySem PySem.Spec L2 PI
theorem bor_f {g h : MB} {ρ ρ1 : Rho} {r : Option (Bool × Rho)} (e : g ρ = some (false, ρ1)) (e2 : h ρ1 = r) : bOr g h ρ = r := by
  rw [← e2]
  unfold bOr
  rw [e]
def sl (n : Nat) (x : Option (Fl × Rho)) : Option O := match x with
  | some (_, ρ) => (match ρ[n]? with
    | some o => o
    | none => none)
  | none => none
def Shp (ds : List Int) (sc : O) (ρ : Rho) : Prop := ∃ (a b c : Int) (s2 s3 s4 s5 s6 s7 s8 s9 s10 : Option O), ρ = [some sc, some (stO ds a b c), s2, s3, s4, s5, s6, s7, s8, s9, s10]
theorem exq {g h : MS} {ρ ρ1 : Rho} {Q : Rho → Prop} (e : g ρ = some (.nx, ρ1)) (e2 : ∃ ρ', h ρ1 = some (.nx, ρ') ∧ Q ρ') : ∃ ρ', sSeq g h ρ = some (.nx, ρ') ∧ Q ρ' := by
  obtain ⟨ρ', a, b⟩ := e2
  exact ⟨ρ', seq_nx e a, b⟩
theorem exfor {g h : MS} {ρ : Rho} {Q : Rho → Prop} {pre post : List (Option O)} (e : g ρ = some (.nx, pre ++ sl 8 (g ρ) :: sl 9 (g ρ) :: post)) (e2 : ∀ x y, ∃ ρ', h (pre ++ x :: y :: post) = some (.nx, ρ') ∧ Q ρ') : ∃ ρ', sSeq g h ρ = some (.nx, ρ') ∧ Q ρ' := exq e (e2 _ _)
theorem unp_k {g : MD} {b : MG} {ρ ρ1 ρ2 : Rho} {d : D} (e : g ρ = some (d, ρ1)) (e2 : b d ρ1 = some ρ2) : sUnp g b ρ = some (.nx, ρ2) := by
  unfold sUnp
  rw [e]
  dsimp only
  rw [e2]
theorem ne_c {ga gb : MD} {ρ : Rho} {x : D} (h : dNeD x x = some (.bl false)) (ha : ga ρ = some (x, ρ)) (hb : gb ρ = some (x, ρ)) : bOf (mOp2 dNeD ga gb) ρ = some (false, ρ) := b_k (op_k ha hb h)
def invD : D := T [T [], T [T [.int 1, T []]]]
theorem call1 {fn : Fn} {st st' r : O} {s0 : Option O} {ρ : Rho} (h : fn [st] = some (r, [some st'])) : mCall fn [some 1] (aLend 1 aNil) (s0 :: some st :: ρ) = some (r, s0 :: some st' :: ρ) := by
  simp [mCall, aLend, aNil, gather, h, setL]
theorem call12 {fn : Fn} {st st' r : O} {d : D} {s0 : Option O} {ρ : Rho} {g : MO} (hg : g (s0 :: some st :: ρ) = some (.fz d, s0 :: some st :: ρ)) (h : fn [st, .fz d] = some (r, [some st', some (.fz d)])) : mCall fn [some 1, none] (aLend 1 (aCons g aNil)) (s0 :: some st :: ρ) = some (r, s0 :: some st' :: ρ) := by
  simp [mCall, aLend, aCons, aNil, gather, hg, h, setL]
abbrev bodyS : MS := (sSeq (sAsg 3 (oFz (mFrz (mCall c_u_law_two [some 1] (aLend 1 aNil)))))
                (sSeq
                  (sUnp
                    (mFrz
                      (mCall c_u_law_side [some 1, none]
                        (aLend 1 (aCons (oFz (mOp2 dIx (mVar 3) (mC (D.int 0)))) aNil))))
                    (gTupD 2 (gsCons (gSet 4) (gsCons (gSet 5) gsNil))))
                  (sSeq
                    (sUnp
                      (mFrz
                        (mCall c_u_law_side [some 1, none]
                          (aLend 1 (aCons (oFz (mOp2 dIx (mVar 3) (mC (D.int 1)))) aNil))))
                      (gTupD 2 (gsCons (gSet 6) (gsCons (gSet 7) gsNil))))
                    (sSeq
                      (sIf
                        (bOr
                          (bOf
                            (mOp2 dIsNot
                              (mFrz
                                (oCallD c_are_alike
                                  (dsCons (mVar 4) (dsCons (mVar 6) (dsCons (mVar 5) (dsCons (mVar 7) dsNil))))))
                              (mC (D.bl true))))
                          (bOf
                            (mOp2 dIsNot
                              (mFrz
                                (oCallD c_are_alike
                                  (dsCons (mVar 6) (dsCons (mVar 4) (dsCons (mVar 7) (dsCons (mVar 5) dsNil))))))
                              (mC (D.bl true)))))
                        (sRet (oFz (mC (D.bl false)))) sSkip)
                      (sSeq
                        (sFor (iSeq (mFrz (oCallD c_u_law_faults (dsCons (mVar 6) (dsCons (mVar 7) dsNil)))))
                          (gTupD 2 (gsCons (gSet 8) (gsCons (gSet 9) gsNil)))
                          (sIf
                            (bOr
                              (bOf
                                (mOp2 dIsNot
                                  (mFrz
                                    (oCallD c_are_alike
                                      (dsCons (mVar 4) (dsCons (mVar 8) (dsCons (mVar 5) (dsCons (mVar 9) dsNil))))))
                                  (mC (D.bl false))))
                              (bOf
                                (mOp2 dIsNot
                                  (mFrz
                                    (oCallD c_are_alike
                                      (dsCons (mVar 8) (dsCons (mVar 4) (dsCons (mVar 9) (dsCons (mVar 5) dsNil))))))
                                  (mC (D.bl false)))))
                            (sRet (oFz (mC (D.bl false)))) sSkip))
                        (sSeq
                          (sAsg 10
                            (oFz
                              (mFrz
                                (oNewD 0 c_Pair_init
                                  (dsCons (mTup (dsCons (mVar 4) (dsCons (mVar 6) dsNil)))
                                    (dsCons (mTup (dsCons (mVar 5) (dsCons (mVar 7) dsNil)))
                                      (dsCons
                                        (mTup
                                          (dsCons (mTup dsNil)
                                            (dsCons
                                              (mTup
                                                (dsCons (mTup (dsCons (mC (D.int 1)) (dsCons (mTup dsNil) dsNil)))
                                                  dsNil))
                                              dsNil)))
                                        dsNil)))))))
                          (sIf
                            (bOr
                              (bOf
                                (mOp2 dNeD (mOp1 (dAttr ok_cores (Str.ofString "cores")) (mVar 10))
                                  (mTup (dsCons (mVar 4) (dsCons (mVar 6) dsNil)))))
                              (bOr
                                (bOf
                                  (mOp2 dNeD (mOp1 (dAttr ok_parts (Str.ofString "parts")) (mVar 10))
                                    (mTup (dsCons (mVar 5) (dsCons (mVar 7) dsNil)))))
                                (bOf
                                  (mOp2 dNeD (mOp1 (dAttr ok_invariants (Str.ofString "invariants")) (mVar 10))
                                    (mTup
                                      (dsCons (mTup dsNil)
                                        (dsCons
                                          (mTup
                                            (dsCons (mTup (dsCons (mC (D.int 1)) (dsCons (mTup dsNil) dsNil))) dsNil))
                                          dsNil)))))))
                            (sRet (oFz (mC (D.bl false)))) sSkip)))))))
theorem body_ok (ds : List Int) (sc : O) (a b c : Int) (s2 s3 s4 s5 s6 s7 s8 s9 s10 : Option O) :
    ∃ ρ', bodyS
      [some sc, some (stO ds a b c), s2, s3, s4, s5, s6, s7, s8, s9, s10] = some (.nx, ρ') ∧ Shp ds sc ρ' := by
  obtain ⟨a1, b1, c1, log, sw, sh, by_, many, hl, hsh, hb, hm, e1⟩ := two_ok ds a b c
  obtain ⟨a2, b2, c2, x, y, w, k, t, i, hs1, e2⟩ := side_ok "l" 0 false 0 by_ many (.inl ⟨rfl, rfl, rfl, rfl⟩) hb hm ds a1 b1 c1
  obtain ⟨a3, b3, c3, x', y', w', k', t', i', hs2, e3⟩ := side_ok "r" log sw sh by_ many (.inr ⟨rfl, hl, hsh⟩) hb hm ds a2 b2 c2
  refine exq (ρ1 := [some sc, some (stO ds a1 b1 c1), s2, some (.fz (.tup [spD "l" 0 false 0 by_ many, spD "r" log sw sh by_ many])), s4, s5, s6, s7, s8, s9, s10]) (asg_k (fz_k (frz_k (call1 e1)))) ?_
  refine exq (ρ1 := [some sc, some (stO ds a2 b2 c2), s2, some (.fz (.tup [spD "l" 0 false 0 by_ many, spD "r" log sw sh by_ many])), some (.fz (coreD "l" 0 false 0 by_ many x y w k t i)), some (.fz (partD "l" 0 0 many)), s6, s7, s8, s9, s10]) ?_ ?_
  · exact unp_k (frz_k (call12 (by kernel_rfl) e2)) (by kernel_rfl)
  refine exq (ρ1 := [some sc, some (stO ds a3 b3 c3), s2, some (.fz (.tup [spD "l" 0 false 0 by_ many, spD "r" log sw sh by_ many])), some (.fz (coreD "l" 0 false 0 by_ many x y w k t i)), some (.fz (partD "l" 0 0 many)), some (.fz (coreD "r" log sw sh by_ many x' y' w' k' t' i')), some (.fz (partD "r" log sh many)), s8, s9, s10]) ?_ ?_
  · exact unp_k (frz_k (call12 (by kernel_rfl) e3)) (by kernel_rfl)
  have ok1 := ok_core "l" 0 false 0 by_ many x y w k t i hs1 (.inl rfl) (.inl rfl) hb
  have ok2 := ok_core "r" log sw sh by_ many x' y' w' k' t' i' hs2 (.inr rfl) (hl.elim (fun z => .inl z.1) .inr) hb
  have ok3 := ok_part "l" 0 0 many (.inl rfl)
  have ok4 := ok_part "r" log sh many (.inr rfl)
  refine exq (ρ1 := [some sc, some (stO ds a3 b3 c3), s2, some (.fz (.tup [spD "l" 0 false 0 by_ many, spD "r" log sw sh by_ many])), some (.fz (coreD "l" 0 false 0 by_ many x y w k t i)), some (.fz (partD "l" 0 0 many)), some (.fz (coreD "r" log sw sh by_ many x' y' w' k' t' i')), some (.fz (partD "r" log sh many)), s8, s9, s10]) ?_ ?_
  · rcases hb with rfl | rfl <;> rcases hm with rfl | rfl | rfl <;> rcases hl with ⟨rfl, rfl⟩ | rfl <;> rcases hsh with rfl | rfl | rfl | rfl
    all_goals (try cases sw)
    all_goals kernel_rfl
  refine exfor (pre := [some sc, some (stO ds a3 b3 c3), s2, some (.fz (.tup [spD "l" 0 false 0 by_ many, spD "r" log sw sh by_ many])), some (.fz (coreD "l" 0 false 0 by_ many x y w k t i)), some (.fz (partD "l" 0 0 many)), some (.fz (coreD "r" log sw sh by_ many x' y' w' k' t' i')), some (.fz (partD "r" log sh many))]) (post := [s10]) ?_ ?_
  · rcases hb with rfl | rfl <;> rcases hm with rfl | rfl | rfl <;> rcases hl with ⟨rfl, rfl⟩ | rfl <;> rcases hsh with rfl | rfl | rfl | rfl
    all_goals (try cases sw)
    all_goals kernel_rfl
  generalize coreD "l" 0 false 0 by_ many x y w k t i = L at ok1 ⊢
  generalize coreD "r" log sw sh by_ many x' y' w' k' t' i' = R at ok2 ⊢
  generalize partD "l" 0 0 many = PL at ok3 ⊢
  generalize partD "r" log sh many = PR at ok4 ⊢
  intro x8 y9
  refine exq (ρ1 := [some sc, some (stO ds a3 b3 c3), s2, some (.fz (.tup [spD "l" 0 false 0 by_ many, spD "r" log sw sh by_ many])), some (.fz L), some (.fz PL), some (.fz R), some (.fz PR), x8, y9, some (.fz (.obj 0 ["cores", "parts", "invariants"] [T [L, R], T [PL, PR], invD]))]) (by kernel_rfl) ?_
  have n1 : dNeD (T [L, R]) (T [L, R]) = some (.bl false) := ne_refl (n := 21) (by simp [okD, okDs, ok1, ok2]) (by decide)
  have n2 : dNeD (T [PL, PR]) (T [PL, PR]) = some (.bl false) := ne_refl (n := 21) (by simp [okD, okDs, ok3, ok4]) (by decide)
  have n3 : dNeD invD invD = some (.bl false) := ne_refl (n := 21) (by rfl) (by decide)
  refine ⟨_, if_f (bor_f (ne_c n1 (by kernel_rfl) (by kernel_rfl)) (bor_f (ne_c n2 (by kernel_rfl) (by kernel_rfl)) (ne_c n3 (by kernel_rfl) (by kernel_rfl)))) rfl rfl, a3, b3, c3, _, _, _, _, _, _, _, _, _, rfl⟩
end Hd
set_option Elab.async false
set_option linter.all false
set_option maxRecDepth 100000
set_option maxHeartbeats 4000000
set_option autoImplicit false
namespace Hd
open PySem PySem.Spec L2 PI
theorem frzs_map : ∀ ds : List D, O.frzs (ds.map .fz) = ds
  | [] => rfl
  | d :: ds => by simp [O.frzs, O.frz, frzs_map ds]
theorem start_ok (ns : List Int) (h : ns.length ≤ 63) : c_u_law_start [.fz (.rol (ns.map .int))] = some (stO ns 0 0 0, [some (.fz (.rol (ns.map .int)))]) := by
  have h2 : ns.length ≤ sizeLine := Nat.le_trans h (by decide)
  have h4 : decide (4 ≤ sizeLine) = true := by decide
  unfold c_u_law_start der_u_law_start
  simp [runDef, PI.argsOk, sRet, oLst, dsCons, dsNil, mFrz, oList, mVar, mC, O.frz, frzs_map, finA, stO, h2, h4, -List.map_map]
theorem for_ok {ds : List Int} {sc : O} {B : MS} (hB : ∀ ρ, Shp ds sc ρ → ∃ ρ', B ρ = some (.nx, ρ') ∧ Shp ds sc ρ') : ∀ (l : List D) (ρ : Rho), Shp ds sc ρ → ∃ ρ', forLoop (gSet 2) B l ρ = some (.nx, ρ') ∧ Shp ds sc ρ'
  | [], ρ, h => ⟨ρ, rfl, h⟩
  | d :: l, ρ, h => by
    obtain ⟨a, b, c, s2, s3, s4, s5, s6, s7, s8, s9, s10, rfl⟩ := h
    obtain ⟨ρ1, e1, h1⟩ := hB [some sc, some (stO ds a b c), some (.fz d), s3, s4, s5, s6, s7, s8, s9, s10] ⟨a, b, c, _, _, _, _, _, _, _, _, _, rfl⟩
    obtain ⟨ρ2, e2, h2⟩ := for_ok hB l ρ1 h1
    refine ⟨ρ2, ?_, h2⟩
    show (match B [some sc, some (stO ds a b c), some (.fz d), s3, s4, s5, s6, s7, s8, s9, s10] with
      | some (.nx, ρ2) => forLoop (gSet 2) B l ρ2
      | some (.ct, ρ2) => forLoop (gSet 2) B l ρ2
      | some (.bk, ρ2) => some (.nx, ρ2)
      | some (.rt o, ρ2) => some (.rt o, ρ2)
      | none => none) = _
    rw [e1]
    exact e2
theorem law_ok (ns : List Int) (h : ns.length ≤ 63) : ∃ as', c_law [.fz (.rol (ns.map .int))] = some (.fz (.bl true), as') ∧ as'.length = 1 := by
  let sc : O := .fz (.rol (ns.map .int))
  have hb : ∀ ρ, Shp ns sc ρ → ∃ ρ', bodyS ρ = some (Fl.nx, ρ') ∧ Shp ns sc ρ' := fun ρ ⟨a, b, c, s2, s3, s4, s5, s6, s7, s8, s9, s10, e⟩ => by
    subst e
    exact body_ok ns sc a b c s2 s3 s4 s5 s6 s7 s8 s9 s10
  obtain ⟨ρ', e1, a, b, c, s2, s3, s4, s5, s6, s7, s8, s9, s10, e2⟩ := for_ok hb [.int 0, .int 1] [some sc, some (stO ns 0 0 0), none, none, none, none, none, none, none, none, none] ⟨0, 0, 0, _, _, _, _, _, _, _, _, _, rfl⟩
  subst e2
  refine ⟨_, run_rt (ρ' := [some sc, some (stO ns a b c), s2, s3, s4, s5, s6, s7, s8, s9, s10]) ?_, rfl⟩
  unfold der_law
  dsimp only
  refine seq_nx (ρ1 := [some sc, some (stO ns 0 0 0), none, none, none, none, none, none, none, none, none]) (asg_k (o := stO ns 0 0 0) (ρ1 := [some sc, none, none, none, none, none, none, none, none, none, none]) ?_) (seq_nx e1 rfl)
  show oCallD c_u_law_start (dsCons (mVar 0) dsNil) [some (.fz (.rol (ns.map .int))), none, none, none, none, none, none, none, none, none, none] = _
  simp [oCallD, dsCons, dsNil, mVar, start_ok ns h]
  rfl
end Hd
set_option Elab.async false
set_option linter.all false
set_option maxRecDepth 100000
set_option maxHeartbeats 0
set_option autoImplicit false
open PySem PySem.W PySem.Calls PyProof.Rows
theorem PySem.Challenge.cw_longpaid_k28_parts_that_are_alike_holds : PySem.Challenge.rw_longpaid_k28_parts_that_are_alike.Holds := by
  w_on; o_law
  refine HandSHeadRun.head_any (r := Hd.R) (q := view Hd.R.prog [21]) (H := Hd.hk) (ob := Hd.ob) (M := 4000) (loose := Hd.loose) (d := HandSHeadRun.topDef Hd.R.prog 21) (kwd := []) Hd.ob_eq
    (by kernel_rfl) (fun s => by kernel_rfl) Hd.run (by kernel_rfl) (by kernel_rfl) (by kernel_rfl) (by rfl) (by first | assumption | decide +kernel) (by decide +kernel) ⟨rfl, rfl, rfl, rfl, rfl, by decide +kernel⟩ ?hw ?hc
  case hw => w_witness2
  case hc =>
    refine L2.walk_ofE (l := PySem.Challenge.rw_longpaid_k28_parts_that_are_alike) (n := 63) (k := 7) (x := "script") (CX := L2.CX0) rfl (by decide) (by kernel_rfl) ⟨rfl, by decide, by decide⟩ ?F (fun _ _ _ _ z => z)
    intro w mg fa h Y G hmg0
    obtain ⟨K, KX, c⟩ := Y
    have hmg : mg ("law" : PySem.Str) = some (.ref fa) := by
      have e : (HandSHeadRun.topDef Hd.R.prog 21).name = ("law" : PySem.Str) := by kernel_rfl
      rw [← e]
      exact hmg0
    have B := Hd.bnd KX G c
    obtain ⟨f, fd, F, hm⟩ := B.f_law.ex
    have e := hmg.symm.trans hm
    cases e
    have b := L2.FunD.bindsA (ps := ["script"]) F fun _ _ _ _ _ _ us hl => match us, hl with | [_], _ => rfl
    exact ⟨K, fd, PI.spOf K (Hd.clOf K) Hd.c_law, KX, fun s v => b s [v] rfl, fun H a ns hl _ hS => (Hd.law_ok ns hl).elim fun as' z => PI.law_sp hS z.1 z.2,
      fun base _ _ => Hd.ok_lawF B F⟩
