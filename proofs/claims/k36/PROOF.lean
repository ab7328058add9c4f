import PyProof.Rows.All
import Wide.All
import OpenK.AllK
import Wide.FinOn
import KE.KStateDown
import HandS.ForMost
import HandS.WordsExc
import HandS.Defaults
import HandS.Style
import HandS.Zip
import HandS.TupMul
import HandS.TupAny
import HandS.NoneIn
import HandS.IsInst
import HandS.Wide
import HandS.Head2
import HandS.HeadEnd
import HandS.HeadHook2
import HandS.HeadHook3
import HandS.EndBits
import PyProof.ListMulRoad
import PyProof.FactsAll.tuple_2
import HandS.DictComp
import PyProof.AutoSeq1
import HandS.SetFor
import KE.KDictZip
import PyProof.ListNew
import HandS.Iter
import PySem.Challenge.RW_longpaid_k36_claims_of_converters
set_option Elab.async false
set_option linter.all false
set_option maxRecDepth 100000
set_option maxHeartbeats 1000000
/-! PI1: values as trees, what represents them in an abstract heap, roots, frames. -/
namespace PI
open PySem PySem.Spec PyProof.Rows L2

/-- frozen data -/
inductive D where
  | non
  | bl (b : Bool)
  | int (i : Int)
  | str (s : Str)
  | tup (xs : List D)
  | lst (xs : List D)
  /-- a list that may be locked (the script) -/
  | rol (xs : List D)
  | dct (ks : List Key) (xs : List D)
  | obj (c : Nat) (ns : List Str) (xs : List D)
/-- data of one owner: lists, dicts, instances that may change -/
inductive O where
  | fz (d : D)
  | lst (xs : List O)
  | dct (ks : List Key) (xs : List O)
  | obj (c : Nat) (ns : List Str) (xs : List O)
  /-- a tuple of owned things: the tuple itself stands among what is frozen -/
  | tup (xs : List O)

mutual
def O.frz : O → D
  | .fz d => d
  | .lst os => .lst (O.frzs os)
  | .dct ks os => .dct ks (O.frzs os)
  | .obj c ns os => .obj c ns (O.frzs os)
  | .tup os => .tup (O.frzs os)
def O.frzs : List O → List D
  | [] => []
  | o :: os => o.frz :: O.frzs os
end

/-- where the classes stand -/
abbrev Cl := Nat → Addr

/-- a tuple: of this heap, or of the module's written part -/
def TupAt (K : PySem.W.Frag) (G : Hp) (a : Addr) (vs : List V) : Prop := G a = some (.tup vs) ∨ SqT K (fun _ => none) a vs
theorem TupAt.seq {K : PySem.W.Frag} {G : Hp} {a : Addr} {vs : List V} (h : TupAt K G a vs) : SqT K G a vs := by
  rcases h with h | h
  · exact SqT.of h
  · rcases h with (h | ⟨o, h⟩) | h
    · cases h
    · cases h
    · exact .inr h
section
variable (K : PySem.W.Frag) (cl : Cl)
mutual
def RepV (G : Hp) : V → D → Prop
  | v, .non => v = .non
  | v, .bl b => v = .bl b
  | v, .int i => v = .int i
  | v, .str s => v = .str s
  | v, .tup ds => ∃ a vs, v = .ref a ∧ TupAt K G a vs ∧ RepVs G vs ds
  | v, .lst ds => ∃ a vs, v = .ref a ∧ G a = some (.lst vs) ∧ RepVs G vs ds
  | v, .rol ds => ∃ a vs, v = .ref a ∧ SqL K G a vs ∧ RepVs G vs ds
  | v, .dct ks ds => ∃ a kvs, v = .ref a ∧ Rd G a (.dK kvs) ∧ kvs.map (·.1) = ks ∧ RepVs G (kvs.map (·.2)) ds
  | v, .obj c ns ds => ∃ a dx fs, v = .ref a ∧ G a = some (.ins (cl c) dx fs) ∧ fs.map (·.1) = ns ∧ RepVs G (fs.map (·.2)) ds
def RepVs (G : Hp) : List V → List D → Prop
  | vs, [] => vs = []
  | vs, d :: ds => ∃ v ws, vs = v :: ws ∧ RepV G v d ∧ RepVs G ws ds
end

abbrev Path := List Nat
abbrev Lab := Addr → Option Path

mutual
def RepO (G H : Hp) (L : Lab) : Path → V → O → Prop
  | p, v, .fz d => RepV K cl G v d
  | p, v, .lst os => ∃ a vs, v = .ref a ∧ L a = some p ∧ H a = some (.lst vs) ∧ RepOs G H L p 0 vs os
  | p, v, .dct ks os => ∃ a kvs, v = .ref a ∧ L a = some p ∧ H a = some (.dK kvs) ∧ kvs.map (·.1) = ks ∧ RepOs G H L p 0 (kvs.map (·.2)) os
  | p, v, .obj c ns os => ∃ a dx fs, v = .ref a ∧ L a = some p ∧ H a = some (.ins (cl c) dx fs) ∧ fs.map (·.1) = ns ∧ RepOs G H L p 0 (fs.map (·.2)) os
  | p, v, .tup os => ∃ a vs, v = .ref a ∧ TupAt K G a vs ∧ RepOs G H L p 0 vs os
def RepOs (G H : Hp) (L : Lab) : Path → Nat → List V → List O → Prop
  | p, i, vs, [] => vs = []
  | p, i, vs, o :: os => ∃ v ws, vs = v :: ws ∧ RepO G H L (p ++ [i]) v o ∧ RepOs G H L p (i + 1) ws os
end
end

section
variable {K : PySem.W.Frag} {cl : Cl} {G G' H H' : Hp} {L L' : Lab}

/-- one abstract heap within another -/
def Le (G G' : Hp) : Prop := ∀ b x, G b = some x → G' b = some x
theorem Le.refl : Le G G := fun _ _ h => h
theorem Le.trans {G1 G2 G3 : Hp} (a : Le G1 G2) (b : Le G2 G3) : Le G1 G3 := fun c x h => b c x (a c x h)
theorem Le.rd (h : Le G G') {a : Addr} {u : HO} (r : Rd G a u) : Rd G' a u := by
  rcases r with r | ⟨o, r⟩
  · exact .inl (h _ _ r)
  · exact .inr ⟨o, h _ _ r⟩
theorem Le.seq (h : Le G G') {a : Addr} {xs : List V} (r : SqL K G a xs) : SqL K G' a xs := by
  rcases r with r | r
  · exact .inl (h.rd r)
  · exact .inr r
theorem Le.tup (h : Le G G') {a : Addr} {xs : List V} (r : TupAt K G a xs) : TupAt K G' a xs := by
  rcases r with r | r
  · exact .inl (h _ _ r)
  · exact .inr r

mutual
theorem RepV.mono (h : Le G G') : ∀ (d : D) (v : V), RepV K cl G v d → RepV K cl G' v d
  | .non, _, r => r
  | .bl _, _, r => r
  | .int _, _, r => r
  | .str _, _, r => r
  | .tup ds, _, ⟨a, vs, e, s, r⟩ => ⟨a, vs, e, h.tup s, RepVs.mono h ds vs r⟩
  | .lst ds, _, ⟨a, vs, e, s, r⟩ => ⟨a, vs, e, h _ _ s, RepVs.mono h ds vs r⟩
  | .rol ds, _, ⟨a, vs, e, s, r⟩ => ⟨a, vs, e, h.seq s, RepVs.mono h ds vs r⟩
  | .dct _ ds, _, ⟨a, kvs, e, s, k, r⟩ => ⟨a, kvs, e, h.rd s, k, RepVs.mono h ds _ r⟩
  | .obj _ _ ds, _, ⟨a, dx, fs, e, s, k, r⟩ => ⟨a, dx, fs, e, h _ _ s, k, RepVs.mono h ds _ r⟩
theorem RepVs.mono (h : Le G G') : ∀ (ds : List D) (vs : List V), RepVs K cl G vs ds → RepVs K cl G' vs ds
  | [], _, r => r
  | d :: ds, _, ⟨v, ws, e, r, rs⟩ => ⟨v, ws, e, RepV.mono h d v r, RepVs.mono h ds ws rs⟩
end

mutual
/-- an owned tree at another heap, under another label -/
theorem RepO.move (hG : Le G G') {p p' : Path} (hm : ∀ a q, L a = some (p ++ q) → L' a = some (p' ++ q) ∧ ∀ x, H a = some x → H' a = some x) :
    ∀ (o : O) (v : V) (q : Path), RepO K cl G H L (p ++ q) v o → RepO K cl G' H' L' (p' ++ q) v o
  | .fz d, v, q, r => RepV.mono hG d v r
  | .lst os, v, q, ⟨a, vs, e, l, h, r⟩ => ⟨a, vs, e, (hm a q l).1, (hm a q l).2 _ h, RepOs.move hG hm os vs q 0 r⟩
  | .dct ks os, v, q, ⟨a, kvs, e, l, h, k, r⟩ => ⟨a, kvs, e, (hm a q l).1, (hm a q l).2 _ h, k, RepOs.move hG hm os _ q 0 r⟩
  | .obj c ns os, v, q, ⟨a, dx, fs, e, l, h, k, r⟩ => ⟨a, dx, fs, e, (hm a q l).1, (hm a q l).2 _ h, k, RepOs.move hG hm os _ q 0 r⟩
  | .tup os, v, q, ⟨a, vs, e, t, r⟩ => ⟨a, vs, e, hG.tup t, RepOs.move hG hm os vs q 0 r⟩
theorem RepOs.move (hG : Le G G') {p p' : Path} (hm : ∀ a q, L a = some (p ++ q) → L' a = some (p' ++ q) ∧ ∀ x, H a = some x → H' a = some x) :
    ∀ (os : List O) (vs : List V) (q : Path) (i : Nat), RepOs K cl G H L (p ++ q) i vs os → RepOs K cl G' H' L' (p' ++ q) i vs os
  | [], _, _, _, r => r
  | o :: os, _, q, i, ⟨v, ws, e, r, rs⟩ => ⟨v, ws, e, by
      have r2 : RepO K cl G H L (p ++ (q ++ [i])) v o := by rw [← List.append_assoc]; exact r
      rw [List.append_assoc]
      exact RepO.move hG hm o v (q ++ [i]) r2, RepOs.move hG hm os ws q (i + 1) rs⟩
end

mutual
/-- frozen: its nodes have become part of the frozen heap -/
theorem RepO.freeze (hG : Le G G') {p : Path} (hm : ∀ a q x, L a = some (p ++ q) → H a = some x → G' a = some x) :
    ∀ (o : O) (v : V) (q : Path), RepO K cl G H L (p ++ q) v o → RepV K cl G' v o.frz
  | .fz d, v, q, r => RepV.mono hG d v r
  | .lst os, v, q, ⟨a, vs, e, l, h, r⟩ => ⟨a, vs, e, hm a q _ l h, RepOs.freeze hG hm os vs q 0 r⟩
  | .dct ks os, v, q, ⟨a, kvs, e, l, h, k, r⟩ => ⟨a, kvs, e, .inl (hm a q _ l h), k, RepOs.freeze hG hm os _ q 0 r⟩
  | .obj c ns os, v, q, ⟨a, dx, fs, e, l, h, k, r⟩ => ⟨a, dx, fs, e, hm a q _ l h, k, RepOs.freeze hG hm os _ q 0 r⟩
  | .tup os, v, q, ⟨a, vs, e, t, r⟩ => ⟨a, vs, e, hG.tup t, RepOs.freeze hG hm os vs q 0 r⟩
theorem RepOs.freeze (hG : Le G G') {p : Path} (hm : ∀ a q x, L a = some (p ++ q) → H a = some x → G' a = some x) :
    ∀ (os : List O) (vs : List V) (q : Path) (i : Nat), RepOs K cl G H L (p ++ q) i vs os → RepVs K cl G' vs (O.frzs os)
  | [], _, _, _, r => r
  | o :: os, _, q, i, ⟨v, ws, e, r, rs⟩ => ⟨v, ws, e, RepO.freeze hG hm o v (q ++ [i]) (by rw [← List.append_assoc]; exact r), RepOs.freeze hG hm os ws q (i + 1) rs⟩
end
end

/-! ### roots -/
abbrev Roots := Nat → Option (V × O)

structure RRep (K : PySem.W.Frag) (cl : Cl) (H G : Hp) (L : Lab) (R : Roots) : Prop where
  ge : Le G H
  sep : ∀ b p, L b = some p → G b = none ∧ ∃ x, H b = some x
  imm : ∀ b xs, H b = some (.tup xs) → G b = some (.tup xs)
  rep : ∀ i v o, R i = some (v, o) → RepO K cl G H L [i] v o
  own : ∀ b p, L b = some p → ∃ i r, p = i :: r ∧ (R i).isSome = true

/-- what is not owned stands as it was -/
structure Frame (H G : Hp) (L : Lab) (H' G' : Hp) (L' : Lab) : Prop where
  keep : ∀ b x, H b = some x → L b = none → H' b = some x ∧ L' b = none ∧ (G b = none → G' b = none)
  le : Le G G'
theorem Frame.refl {H G : Hp} {L : Lab} : Frame H G L H G L := ⟨fun _ _ h l => ⟨h, l, id⟩, Le.refl⟩
theorem Frame.trans {H G H1 G1 H2 G2 : Hp} {L L1 L2 : Lab} (a : Frame H G L H1 G1 L1) (b : Frame H1 G1 L1 H2 G2 L2) : Frame H G L H2 G2 L2 :=
  ⟨fun c x h l => by
    obtain ⟨h1, l1, g1⟩ := a.keep c x h l
    obtain ⟨h2, l2, g2⟩ := b.keep c x h1 l1
    exact ⟨h2, l2, fun z => g2 (g1 z)⟩, a.le.trans b.le⟩

section
variable {K : PySem.W.Frag} {cl : Cl} {G G' H H' : Hp} {L L' : Lab} {R R' : Roots}

/-- labels of the roots that go along, renamed -/
def subL (L : Lab) (k' : Nat → Option Nat) : Lab := fun b => match L b with
  | some (i :: r) => (match k' i with
    | some j => some (j :: r)
    | none => none)
  | _ => none
theorem subL_some {k' : Nat → Option Nat} {b : Addr} {j : Nat} {r : Path} (h : subL L k' b = some (j :: r)) : ∃ i, L b = some (i :: r) ∧ k' i = some j := by
  unfold subL at h
  split at h
  · rename_i i r' e
    split at h
    · rename_i j' e2
      cases h
      exact ⟨i, e, e2⟩
    · cases h
  · cases h
theorem subL_cons {k' : Nat → Option Nat} {b : Addr} {p : Path} (h : subL L k' b = some p) : ∃ j r, p = j :: r := by
  unfold subL at h
  split at h
  · split at h
    · cases h; exact ⟨_, _, rfl⟩
    · cases h
  · cases h
theorem subL_of {k' : Nat → Option Nat} {b : Addr} {i j : Nat} {r : Path} (h : L b = some (i :: r)) (e : k' i = some j) : subL L k' b = some (j :: r) := by
  unfold subL
  rw [h]
  simp only [e]

/-- some of the roots, under other numbers -/
theorem RRep.sub (h : RRep K cl H G L R) (k k' : Nat → Option Nat) (hk : ∀ i j, k' i = some j ↔ k j = some i) : RRep K cl H G (subL L k') (fun j => (k j).bind R) := by
  refine ⟨h.ge, fun b p e => ?_, h.imm, fun j v o e => ?_, fun b p e => ?_⟩
  · obtain ⟨j, r, rfl⟩ := subL_cons e
    obtain ⟨i, e1, _⟩ := subL_some e
    exact h.sep b _ e1
  · cases e1 : k j with
    | none => simp [e1] at e
    | some i =>
      simp only [e1, Option.bind_some] at e
      have r := h.rep i v o e
      have := RepO.move (L' := subL L k') (H' := H) (G' := G) (p := [i]) (p' := [j]) Le.refl (fun a q l => ⟨subL_of l ((hk i j).mpr e1), fun _ x => x⟩) o v [] (by simpa using r)
      simpa using this
  · obtain ⟨j, r, rfl⟩ := subL_cons e
    obtain ⟨i, e1, e2⟩ := subL_some e
    refine ⟨j, r, rfl, ?_⟩
    obtain ⟨i', r', e3, e4⟩ := h.own b _ e1
    cases e3
    rw [(hk i j).mp e2]
    exact e4

/-- labels behind: the roots that stayed, and those that came back, renamed -/
def backL (L : Lab) (hid : Nat → Bool) (L' : Lab) (m' : Nat → Option Nat) : Lab := fun b => match L b with
  | some (i :: r) => (match hid i with
    | true => some (i :: r)
    | false => subL L' m' b)
  | _ => subL L' m' b

theorem RRep.back (h : RRep K cl H G L R) {k k' : Nat → Option Nat} (hk : ∀ i j, k' i = some j ↔ k j = some i) (h' : RRep K cl H' G' L' R') (f : Frame H G (subL L k') H' G' L')
    (hid : Nat → Bool) (m m' : Nat → Option Nat) (hm : ∀ i j, m' j = some i ↔ m i = some j) (hh : ∀ i, hid i = true → k' i = none ∧ m i = none) :
    RRep K cl H' G' (backL L hid L' m') (fun i => match hid i with | true => R i | false => (m i).bind R') ∧
    Frame H G L H' G' (backL L hid L' m') := by
  have hidden : ∀ b i r, L b = some (i :: r) → hid i = true → subL L k' b = none := fun b i r e z => by
    unfold subL
    rw [e]
    simp only [(hh i z).1]
  have bl1 : ∀ b i r, L b = some (i :: r) → hid i = true → backL L hid L' m' b = some (i :: r) := fun b i r e z => by
    unfold backL
    rw [e]
    simp only [z]
  have bl2 : ∀ b p, backL L hid L' m' b = some p → (∃ i r, p = i :: r ∧ L b = some (i :: r) ∧ hid i = true) ∨ subL L' m' b = some p := fun b p e => by
    unfold backL at e
    split at e
    · rename_i i r e1
      split at e
      · rename_i z
        cases e
        exact .inl ⟨i, r, rfl, e1, z⟩
      · exact .inr e
    · exact .inr e
  refine ⟨⟨h'.ge, fun b p e => ?_, h'.imm, fun i v o e => ?_, fun b p e => ?_⟩, ⟨fun b x e l => ?_, f.le⟩⟩
  · rcases bl2 b p e with ⟨i, r, rfl, e1, z⟩ | e1
    · obtain ⟨g, x, hx⟩ := h.sep b _ e1
      obtain ⟨q1, q2, q3⟩ := f.keep b x hx (hidden b i r e1 z)
      exact ⟨q3 g, x, q1⟩
    · obtain ⟨j, r, rfl⟩ := subL_cons e1
      obtain ⟨i, e2, _⟩ := subL_some e1
      exact h'.sep b _ e2
  · cases z : hid i with
    | true =>
      simp only [z] at e
      have r := h.rep i v o e
      have := RepO.move (L' := backL L hid L' m') (H' := H') (G' := G') (p := [i]) (p' := [i]) f.le (fun a q l => ⟨bl1 a i q l z, fun x hx => (f.keep a x hx (hidden a i q l z)).1⟩) o v [] (by simpa using r)
      simpa using this
    | false =>
      simp only [z] at e
      cases e1 : m i with
      | none => simp [e1] at e
      | some j =>
        simp only [e1, Option.bind_some] at e
        have r := h'.rep j v o e
        have := RepO.move (L' := backL L hid L' m') (H' := H') (G' := G') (p := [j]) (p' := [i]) Le.refl (fun a q l => ⟨by
          have s1 : subL L' m' a = some (i :: q) := subL_of l ((hm i j).mpr e1)
          unfold backL
          split
          · rename_i i2 r2 e2
            split
            · rename_i z2
              exfalso
              obtain ⟨_, x, hx⟩ := h.sep a _ e2
              have := (f.keep a x hx (hidden a i2 r2 e2 z2)).2.1
              rw [this] at l
              cases l
            · exact s1
          · exact s1, fun _ x => x⟩) o v [] (by simpa using r)
        simpa using this
  · rcases bl2 b p e with ⟨i, r, rfl, e1, z⟩ | e1
    · refine ⟨i, r, rfl, ?_⟩
      simp only [z]
      obtain ⟨i', r', e3, e4⟩ := h.own b _ e1
      cases e3
      exact e4
    · obtain ⟨i, r, rfl⟩ := subL_cons e1
      obtain ⟨j, e2, e3⟩ := subL_some e1
      refine ⟨i, r, rfl, ?_⟩
      have e4 := (hm i j).mp e3
      have z : hid i = false := by
        cases q : hid i with
        | false => rfl
        | true => rw [(hh i q).2] at e4; cases e4
      simp only [z, e4, Option.bind_some]
      obtain ⟨j', r', e5, e6⟩ := h'.own b _ e2
      cases e5
      exact e6
  · have s0 : subL L k' b = none := by
      unfold subL
      rw [l]
    obtain ⟨q1, q2, q3⟩ := f.keep b x e s0
    refine ⟨q1, ?_, q3⟩
    unfold backL
    rw [l]
    show subL L' m' b = none
    unfold subL
    rw [q2]

def frzG (H G : Hp) (L : Lab) (t : Nat) : Hp := fun b => match L b with
  | some (i :: r) => if i = t then H b else G b
  | _ => G b
def frzL (L : Lab) (t : Nat) : Lab := fun b => match L b with
  | some (i :: r) => if i = t then none else some (i :: r)
  | _ => none
theorem frzL_some {t : Nat} {b : Addr} {p : Path} (e : frzL L t b = some p) : L b = some p ∧ ∃ i r, p = i :: r ∧ i ≠ t := by
  unfold frzL at e
  split at e
  · rename_i i r l
    split at e
    · cases e
    · rename_i n
      cases e
      exact ⟨l, i, r, rfl, n⟩
  · cases e
theorem frzL_of {t : Nat} {b : Addr} {i : Nat} {r : Path} (l : L b = some (i :: r)) (n : i ≠ t) : frzL L t b = some (i :: r) := by
  unfold frzL
  rw [l]
  show (if i = t then none else some (i :: r)) = _
  rw [if_neg n]
theorem frzG_at {t : Nat} {b : Addr} {r : Path} (l : L b = some (t :: r)) : frzG H G L t b = H b := by
  unfold frzG
  rw [l]
  show (if t = t then H b else G b) = _
  rw [if_pos rfl]
theorem frzG_ne {t : Nat} {b : Addr} (n : ∀ r, L b ≠ some (t :: r)) : frzG H G L t b = G b := by
  unfold frzG
  split
  · rename_i i r l
    split
    · rename_i e
      subst e
      exact absurd l (n r)
    · rfl
  · rfl
/-- a root frozen -/
theorem RRep.freeze (h : RRep K cl H G L R) {t : Nat} {v : V} {o : O} (e : R t = some (v, o)) :
    RRep K cl H (frzG H G L t) (frzL L t) (fun i => if i = t then none else R i) ∧ RepV K cl (frzG H G L t) v o.frz ∧ Frame H G L H (frzG H G L t) (frzL L t) := by
  have hle : Le G (frzG H G L t) := fun b x hb => by
    rw [frzG_ne fun r l => by
      have := (h.sep b _ l).1
      rw [hb] at this
      cases this]
    exact hb
  have hge : Le (frzG H G L t) H := fun b x hb => by
    unfold frzG at hb
    split at hb
    · split at hb
      · exact hb
      · exact h.ge b x hb
    · exact h.ge b x hb
  refine ⟨⟨hge, fun b p e1 => ?_, fun b xs e1 => hle _ _ (h.imm b xs e1), fun i v1 o1 e1 => ?_, fun b p e1 => ?_⟩, ?_, ⟨fun b x e1 l => ⟨e1, ?_, fun z => ?_⟩, hle⟩⟩
  · obtain ⟨l, i, r, rfl, n⟩ := frzL_some e1
    obtain ⟨g, x⟩ := h.sep b _ l
    refine ⟨?_, x⟩
    rw [frzG_ne fun r' l' => by
      rw [l] at l'
      cases l'
      exact n rfl]
    exact g
  · by_cases n : i = t
    · rw [if_pos n] at e1; cases e1
    · rw [if_neg n] at e1
      have r := h.rep i v1 o1 e1
      have := RepO.move (L' := frzL L t) (H' := H) (p := [i]) (p' := [i]) hle (fun a q l => ⟨frzL_of l n, fun _ x => x⟩) o1 v1 [] (by simpa using r)
      simpa using this
  · obtain ⟨l, i, r, rfl, n⟩ := frzL_some e1
    refine ⟨i, r, rfl, ?_⟩
    rw [if_neg n]
    obtain ⟨i', r', e3, e4⟩ := h.own b _ l
    cases e3
    exact e4
  · have r := h.rep t v o e
    exact RepO.freeze (L := L) (H := H) (p := [t]) hle (fun a q x l hx => by rw [frzG_at l]; exact hx) o v [] (by simpa using r)
  · unfold frzL
    rw [l]
  · rw [frzG_ne fun r' l' => by rw [l] at l'; cases l']
    exact z
end
end PI
set_option Elab.async false
set_option linter.all false
set_option maxRecDepth 100000
set_option maxHeartbeats 1000000
set_option autoImplicit false
/-! PI2: the state by slots; the judgements; expressions of frozen data. -/
namespace PI
open PySem PySem.Spec L2

abbrev Rho := List (Option O)
def rootsOf (σ : St) (ρ : Rho) : Roots := fun i => match σ[i]?, ρ[i]? with
  | some (some v), some (some o) => some (v, o)
  | _, _ => none
theorem rootsOf_some {σ : St} {ρ : Rho} {i : Nat} {v : V} {o : O} : rootsOf σ ρ i = some (v, o) ↔ σ[i]? = some (some v) ∧ ρ[i]? = some (some o) := by
  unfold rootsOf
  constructor
  · intro h
    split at h
    · rename_i v' o' e1 e2
      cases h
      exact ⟨e1, e2⟩
    · cases h
  · rintro ⟨e1, e2⟩
    rw [e1, e2]

structure SRep (K : PySem.W.Frag) (cl : Cl) (σ : St) (H G : Hp) (L : Lab) (ρ : Rho) : Prop where
  len : σ.length = ρ.length
  all : ∀ (i : Nat) (o : O), ρ[i]? = some (some o) → ∃ v, σ[i]? = some (some v)
  rep : RRep K cl H G L (rootsOf σ ρ)

/-- new things alone -/
structure Ext (H G H' G' : Hp) : Prop where
  keep : ∀ b x, H b = some x → H' b = some x ∧ (G b = none → G' b = none)
  le : Le G G'
  ge : Le G' H'
  imm : ∀ b xs, H' b = some (.tup xs) → H b = some (.tup xs) ∨ G' b = some (.tup xs)
section
variable {K : PySem.W.Frag} {cl : Cl} {G G' H H' : Hp} {L L' : Lab} {R R' : Roots} {σ : St} {ρ : Rho}
theorem Ext.refl (h : Le G H) : Ext H G H G := ⟨fun _ _ e => ⟨e, id⟩, Le.refl, h, fun _ _ e => .inl e⟩
theorem Ext.trans {H1 G1 H2 G2 : Hp} (a : Ext H G H1 G1) (b : Ext H1 G1 H2 G2) : Ext H G H2 G2 :=
  ⟨fun c x e => by
    obtain ⟨h1, g1⟩ := a.keep c x e
    obtain ⟨h2, g2⟩ := b.keep c x h1
    exact ⟨h2, fun z => g2 (g1 z)⟩, a.le.trans b.le, b.ge, fun c xs e => by
    rcases b.imm c xs e with z | z
    · rcases a.imm c xs z with y | y
      · exact .inl y
      · exact .inr (b.le _ _ y)
    · exact .inr z⟩
theorem Ext.new (h : Le G H) {p : Addr} (n : H p = none) (o : HO) : Ext H G (upd H p o) (upd G p o) := by
  have ne : ∀ b x, H b = some x → b ≠ p := fun b x e z => by rw [z, n] at e; cases e
  refine ⟨fun b x e => ?_, fun b x e => ?_, fun b x e => ?_, fun b xs e => ?_⟩
  · rw [upd_ne (ne b x e), upd_ne (ne b x e)]
    exact ⟨e, id⟩
  · rw [upd_ne (ne b x (h b x e))]
    exact e
  · by_cases q : b = p
    · subst q; rw [upd_same] at e ⊢; exact e
    · rw [upd_ne q] at e ⊢; exact h b x e
  · by_cases q : b = p
    · subst q; rw [upd_same] at e ⊢; exact .inr e
    · rw [upd_ne q] at e; exact .inl e
theorem RRep.ext (h : RRep K cl H G L R) (e : Ext H G H' G') : RRep K cl H' G' L R ∧ Frame H G L H' G' L := by
  refine ⟨⟨e.ge, fun b p l => ?_, fun b xs q => ?_, fun i v o q => ?_, h.own⟩, fun b x q l => ⟨(e.keep b x q).1, l, (e.keep b x q).2⟩, e.le⟩
  · obtain ⟨g, x, hx⟩ := h.sep b p l
    exact ⟨(e.keep b x hx).2 g, x, (e.keep b x hx).1⟩
  · rcases e.imm b xs q with z | z
    · exact e.le _ _ (h.imm b xs z)
    · exact z
  · have := RepO.move (L' := L) (H' := H') (p := [i]) (p' := [i]) e.le (fun a q l => ⟨l, fun x hx => (e.keep a x hx).1⟩) o v [] (by simpa using h.rep i v o q)
    simpa using this
theorem SRep.ext (h : SRep K cl σ H G L ρ) (e : Ext H G H' G') : SRep K cl σ H' G' L ρ ∧ Frame H G L H' G' L :=
  ⟨⟨h.len, h.all, (h.rep.ext e).1⟩, (h.rep.ext e).2⟩
theorem SRep.le (h : SRep K cl σ H G L ρ) : Le G H := h.rep.ge
/-- a frozen slot -/
theorem SRep.fz (h : SRep K cl σ H G L ρ) {i : Nat} {d : D} (e : ρ[i]? = some (some (.fz d))) : ∃ v, σ[i]? = some (some v) ∧ RepV K cl G v d := by
  obtain ⟨v, ev⟩ := h.all i _ e
  exact ⟨v, ev, h.rep.rep i v _ (rootsOf_some.mpr ⟨ev, e⟩)⟩

/-! ### appending and dropping temporary roots -/
theorem get_app {α : Type} {xs : List α} {x : α} {i : Nat} : (xs ++ [x])[i]? = if i < xs.length then xs[i]? else if i = xs.length then some x else none := by
  by_cases h : i < xs.length
  · rw [if_pos h, List.getElem?_append_left h]
  · rw [if_neg h, List.getElem?_append_right (by omega)]
    by_cases e : i = xs.length
    · rw [if_pos e]; subst e; simp
    · rw [if_neg e]
      have : i - xs.length ≠ 0 := by omega
      cases q : i - xs.length with
      | zero => exact absurd q this
      | succ n => rfl
/-- a frozen value as a temporary root -/
theorem SRep.push (h : SRep K cl σ H G L ρ) {v : V} {d : D} (r : RepV K cl G v d) : SRep K cl (σ ++ [some v]) H G L (ρ ++ [some (.fz d)]) := by
  refine ⟨by simp [h.len], fun i o e => ?_, ⟨h.rep.ge, h.rep.sep, h.rep.imm, fun i v1 o e => ?_, fun b p l => ?_⟩⟩
  · rw [get_app] at e ⊢
    rw [h.len]
    split at e
    · rename_i z
      rw [if_pos z]
      exact h.all i o e
    · rename_i z
      rw [if_neg z]
      split at e
      · rename_i z2
        rw [if_pos z2]
        exact ⟨v, rfl⟩
      · cases e
  · obtain ⟨e1, e2⟩ := rootsOf_some.mp e
    rw [get_app] at e1 e2
    rw [h.len] at e1
    split at e2
    · rename_i z
      rw [if_pos z] at e1
      exact h.rep.rep i v1 o (rootsOf_some.mpr ⟨e1, e2⟩)
    · rename_i z
      rw [if_neg z] at e1
      split at e2
      · rename_i z2
        rw [if_pos z2] at e1
        cases e1
        cases e2
        exact r
      · cases e2
  · obtain ⟨i, r', e1, e2⟩ := h.rep.own b p l
    refine ⟨i, r', e1, ?_⟩
    obtain ⟨⟨v1, o⟩, e3⟩ := Option.isSome_iff_exists.mp e2
    obtain ⟨e4, e5⟩ := rootsOf_some.mp e3
    have : rootsOf (σ ++ [some v]) (ρ ++ [some (.fz d)]) i = some (v1, o) := rootsOf_some.mpr ⟨by
      rw [List.getElem?_append_left (List.getElem?_eq_some_iff.mp e4).1]; exact e4, by
      rw [List.getElem?_append_left (List.getElem?_eq_some_iff.mp e5).1]; exact e5⟩
    rw [this]
    rfl
/-- the temporary root frozen -/
theorem SRep.pop {v : V} {o : O} (h : SRep K cl (σ ++ [some v]) H G L (ρ ++ [some o])) : ∃ G' L', SRep K cl σ H G' L' ρ ∧ RepV K cl G' v o.frz ∧ Frame H G L H G' L' := by
  have hl : σ.length = ρ.length := by simpa using h.len
  have e0 : rootsOf (σ ++ [some v]) (ρ ++ [some o]) ρ.length = some (v, o) := rootsOf_some.mpr ⟨by rw [get_app, hl]; simp, by rw [get_app]; simp⟩
  obtain ⟨r1, r2, r3⟩ := h.rep.freeze e0
  refine ⟨_, _, ⟨hl, fun i o' e => ?_, ?_⟩, r2, r3⟩
  · have hi := (List.getElem?_eq_some_iff.mp e).1
    obtain ⟨v', e'⟩ := h.all i o' (by rw [List.getElem?_append_left hi]; exact e)
    exact ⟨v', by rw [List.getElem?_append_left (by omega)] at e'; exact e'⟩
  · have er : (fun i => if i = ρ.length then none else rootsOf (σ ++ [some v]) (ρ ++ [some o]) i) = rootsOf σ ρ := by
      funext i
      by_cases hi : i < ρ.length
      · rw [if_neg (by omega)]
        unfold rootsOf
        rw [List.getElem?_append_left (by omega), List.getElem?_append_left hi]
      · have z : rootsOf σ ρ i = none := by
          unfold rootsOf
          rw [List.getElem?_eq_none (by omega : ρ.length ≤ i)]
          split
          · rename_i e1 e2; cases e2
          · rfl
        rw [z]
        by_cases hi2 : i = ρ.length
        · rw [if_pos hi2]
        · rw [if_neg hi2]
          unfold rootsOf
          rw [List.getElem?_eq_none (by simp; omega : (ρ ++ [some o]).length ≤ i)]
          split
          · rename_i e1 e2; cases e2
          · rfl
    rw [er] at r1
    exact r1
end

/-! ### the judgements -/
section
variable (X : Cx) (cl : Cl)
abbrev MD := Rho → Option (D × Rho)
abbrev MO := Rho → Option (O × Rho)
abbrev MB := Rho → Option (Bool × Rho)
def tD (g : MD) : TE := fun σ H Q => ∃ G L ρ d ρ', SRep X.K cl σ H G L ρ ∧ g ρ = some (d, ρ') ∧ ∀ v H' G' L', SRep X.K cl σ H' G' L' ρ' → RepV X.K cl G' v d → Frame H G L H' G' L' → Q v H'
def tO (g : MO) : TE := fun σ H Q => ∃ G L ρ o ρ', SRep X.K cl σ H G L ρ ∧ g ρ = some (o, ρ') ∧ ∀ v H' G' L', SRep X.K cl (σ ++ [some v]) H' G' L' (ρ' ++ [some o]) → Frame H G L H' G' L' → Q v H'
def tB' (g : MB) : TT := fun σ H Q => ∃ G L ρ b ρ', SRep X.K cl σ H G L ρ ∧ g ρ = some (b, ρ') ∧ ∀ H' G' L', SRep X.K cl σ H' G' L' ρ' → Frame H G L H' G' L' → Q b H'
def SD (e : Expr) (g : MD) : Prop := PE X e (tD X cl g)
def SO (e : Expr) (g : MO) : Prop := PE X e (tO X cl g)
def ST (e : Expr) (g : MB) : Prop := PT X e (tB' X cl g)
end

section
variable {X : Cx} {cl : Cl} {e a b c : Expr} {pos : Pos}
theorem PE.weak {t t' : TE} (h : PE X e t) (w : ∀ σ H Q, t' σ H Q → t σ H Q) : PE X e t' := ⟨fun pins s σ H Q I q => h.run pins s σ H Q I (w σ H Q q)⟩
theorem PT.weak {t t' : TT} (h : PT X e t) (w : ∀ σ H Q, t' σ H Q → t σ H Q) : PT X e t' := ⟨fun pins s σ H Q I q => h.run pins s σ H Q I (w σ H Q q)⟩

/-- an owned result, frozen -/
def mFrz (g : MO) : MD := fun ρ => match g ρ with
  | some (o, ρ') => some (o.frz, ρ')
  | none => none
theorem SO.sd {g : MO} (h : SO X cl e g) : SD X cl e (mFrz g) := PE.weak h fun σ H Q ⟨G, L, ρ, d, ρ', hs, hg, q⟩ => by
  unfold mFrz at hg
  split at hg
  · rename_i o ρ2 eg
    cases hg
    refine ⟨G, L, ρ, o, _, hs, eg, fun v H' G' L' s f => ?_⟩
    obtain ⟨G2, L2, s2, r2, f2⟩ := s.pop
    exact q v H' G2 L2 s2 r2 (f.trans f2)
  · cases hg
/-- a frozen result as an owned one -/
def oFz (g : MD) : MO := fun ρ => match g ρ with
  | some (d, ρ') => some (.fz d, ρ')
  | none => none
theorem SD.so {g : MD} (h : SD X cl e g) : SO X cl e (oFz g) := PE.weak h fun σ H Q ⟨G, L, ρ, o, ρ', hs, hg, q⟩ => by
  unfold oFz at hg
  split at hg
  · rename_i d ρ2 eg
    cases hg
    exact ⟨G, L, ρ, d, _, hs, eg, fun v H' G' L' s r f => q v H' G' L' (s.push r) f⟩
  · cases hg

/-! ### constants, names -/
def mC (d : D) : MD := fun ρ => some (d, ρ)
theorem tD_const {v : V} {d : D} (r : ∀ G, RepV X.K cl G v d) : ∀ σ H Q, tD X cl (mC d) σ H Q → tC v σ H Q := fun σ H Q ⟨G, L, ρ, d', ρ', hs, hg, q⟩ => by
  cases hg
  exact q v H G L hs (r G) Frame.refl
theorem sd_int {i : Int} {j : Nat} : SD X cl (.Constant (.int i) j pos) (mC (.int i)) := PE.weak pe_int (tD_const fun _ => rfl)
theorem sd_str {x : Str} {j : Nat} : SD X cl (.Constant (.str x) j pos) (mC (.str x)) := PE.weak pe_str (tD_const fun _ => rfl)
theorem sd_bl {b : Bool} {j : Nat} : SD X cl (.Constant (.bool b) j pos) (mC (.bl b)) := PE.weak pe_bl (tD_const fun _ => rfl)
theorem sd_non {j : Nat} : SD X cl (.Constant .none j pos) (mC .non) := PE.weak pe_non (tD_const fun _ => rfl)
/-- a name of the module -/
theorem sd_glob {x : Str} {v : V} {u : Value} {d : D} (hg : Gl X x) (hm : X.mg x = some u) (r : RelV v u) (rd : ∀ G, RepV X.K cl G v d) (hd : (x == ("__debug__" : Str)) = false := by decide) : SD X cl (.Name x pos) (mC d) :=
  PE.weak (pe_glob hg hm r hd) (tD_const rd)
/-- a name of the def that holds frozen data -/
def mVar (i : Nat) : MD := fun ρ => match ρ[i]? with
  | some (some (.fz d)) => some (d, ρ)
  | _ => none
theorem sd_var (i : Nat) {x : Str} (h : PE X (.Name x pos) (tVar i)) : SD X cl (.Name x pos) (mVar i) := PE.weak h fun σ H Q ⟨G, L, ρ, d, ρ', hs, hg, q⟩ => by
  unfold mVar at hg
  split at hg
  · rename_i d' e
    cases hg
    obtain ⟨v, ev, r⟩ := hs.fz e
    exact ⟨v, ev, q v H G L hs r Frame.refl⟩
  · cases hg

/-! ### operators -/
/-- an operator's reading by what the values stand for -/
def R2Ok (K : PySem.W.Frag) (cl : Cl) (r : R2) (f : D → D → Option D) : Prop := ∀ (G H : Hp) (x y : V) (dx dy d : D) (Q : VK), Le G H → (∀ b xs, H b = some (.tup xs) → G b = some (.tup xs)) → RepV K cl G x dx → RepV K cl G y dy → f dx dy = some d →
  (∀ v H' G', Ext H G H' G' → RepV K cl G' v d → Q v H') → r x y H Q
def mOp2 (f : D → D → Option D) (ga gb : MD) : MD := fun ρ => match ga ρ with
  | some (x, ρ1) => (match gb ρ1 with
    | some (y, ρ2) => (match f x y with
      | some d => some (d, ρ2)
      | none => none)
    | none => none)
  | none => none
theorem mOp2_some {f : D → D → Option D} {ga gb : MD} {ρ ρ' : Rho} {d : D} (h : mOp2 f ga gb ρ = some (d, ρ')) : ∃ x ρ1 y, ga ρ = some (x, ρ1) ∧ gb ρ1 = some (y, ρ') ∧ f x y = some d := by
  unfold mOp2 at h
  split at h
  · rename_i x ρ1 e1
    split at h
    · rename_i y ρ2 e2
      split at h
      · rename_i d' e3
        cases h
        exact ⟨x, ρ1, y, e1, e2, e3⟩
      · cases h
    · cases h
  · cases h
theorem two {ga gb : MD} {r : R2} {f : D → D → Option D} (hr : R2Ok X.K cl r f) {σ : St} {H : Hp} {Q : VK} (h : tD X cl (mOp2 f ga gb) σ H Q) : tD X cl ga σ H fun x H1 => tD X cl gb σ H1 fun y H2 => r x y H2 Q := by
  obtain ⟨G, L, ρ, d, ρ', hs, hg, q⟩ := h
  obtain ⟨x, ρ1, y, e1, e2, e3⟩ := mOp2_some hg
  refine ⟨G, L, ρ, x, ρ1, hs, e1, fun v H1 G1 L1 s1 r1 f1 => ?_⟩
  refine ⟨G1, L1, ρ1, y, ρ', s1, e2, fun u H2 G2 L2 s2 r2 f2 => ?_⟩
  refine hr G2 H2 v u x y d Q s2.le s2.rep.imm (r1.mono f2.le) r2 e3 fun z H3 G3 ex rz => ?_
  obtain ⟨s3, f3⟩ := s2.ext ex
  exact q z H3 G3 L2 s3 rz ((f1.trans f2).trans f3)
theorem sd_bin {op : Operator} {r : R2} {f : D → D → Option D} {ga gb : MD} (ho : OpR X (binaryOp op) r) (hr : R2Ok X.K cl r f) (ha : SD X cl a ga) (hb : SD X cl b gb) : SD X cl (.BinOp a op b pos) (mOp2 f ga gb) :=
  PE.weak (pe_op ho ha hb) fun _ _ _ h => two hr h
theorem sd_cmp {op : CmpOp} {r : R2} {f : D → D → Option D} {ga gb : MD} (ho : OpR X (compareOp op) r) (hr : R2Ok X.K cl r f) (ha : SD X cl a ga) (hb : SD X cl b gb) (hm : behindInMarks op b = false := by rfl) : SD X cl (.Compare a [op] [b] pos) (mOp2 f ga gb) :=
  PE.weak (pe_cmpR ho ha hb hm) fun _ _ _ h => two hr h
theorem sd_ix {r : R2} {f : D → D → Option D} {ga gb : MD} (ho : IxR X r) (hr : R2Ok X.K cl r f) (ha : SD X cl a ga) (hb : SD X cl b gb) (hs : PlainIx b := by exact fun _ _ => rfl) : SD X cl (.Subscript a b pos) (mOp2 f ga gb) :=
  PE.weak (pe_ix ho ha hb hs) fun _ _ _ h => two hr h
def R1Ok (K : PySem.W.Frag) (cl : Cl) (r : V → Hp → VK → Prop) (f : D → Option D) : Prop := ∀ (G H : Hp) (x : V) (dx d : D) (Q : VK), Le G H → (∀ b xs, H b = some (.tup xs) → G b = some (.tup xs)) → RepV K cl G x dx → f dx = some d →
  (∀ v H' G', Ext H G H' G' → RepV K cl G' v d → Q v H') → r x H Q
def mOp1 (f : D → Option D) (ga : MD) : MD := fun ρ => match ga ρ with
  | some (x, ρ1) => (match f x with
    | some d => some (d, ρ1)
    | none => none)
  | none => none
theorem mOp1_some {f : D → Option D} {ga : MD} {ρ ρ' : Rho} {d : D} (h : mOp1 f ga ρ = some (d, ρ')) : ∃ x, ga ρ = some (x, ρ') ∧ f x = some d := by
  unfold mOp1 at h
  split at h
  · rename_i x ρ1 e1
    split at h
    · rename_i d' e3
      cases h
      exact ⟨x, e1, e3⟩
    · cases h
  · cases h
theorem one {ga : MD} {r : V → Hp → VK → Prop} {f : D → Option D} (hr : R1Ok X.K cl r f) {σ : St} {H : Hp} {Q : VK} (h : tD X cl (mOp1 f ga) σ H Q) : tD X cl ga σ H fun x H1 => r x H1 Q := by
  obtain ⟨G, L, ρ, d, ρ', hs, hg, q⟩ := h
  obtain ⟨x, e1, e3⟩ := mOp1_some hg
  refine ⟨G, L, ρ, x, ρ', hs, e1, fun v H1 G1 L1 s1 r1 f1 => ?_⟩
  refine hr G1 H1 v x d Q s1.le s1.rep.imm r1 e3 fun z H3 G3 ex rz => ?_
  obtain ⟨s3, f3⟩ := s1.ext ex
  exact q z H3 G3 L1 s3 rz (f1.trans f3)
theorem sd_un {op : UnaryOp} {r : V → Hp → VK → Prop} {f : D → Option D} {ga : MD} (ho : UnR X (unaryOp op) r) (hr : R1Ok X.K cl r f) (ha : SD X cl a ga) : SD X cl (.UnaryOp op a pos) (mOp1 f ga) :=
  PE.weak (pe_un ho ha) fun _ _ _ h => one hr h

/-! the operators themselves -/
def dInt2 (g : Int → Int → Int) : D → D → Option D
  | .int i, .int j => some (.int (g i j))
  | _, _ => none
def dInt2c (c : Int → Int → Bool) (g : Int → Int → Int) : D → D → Option D
  | .int i, .int j => (match c i j with
    | true => some (.int (g i j))
    | false => none)
  | _, _ => none
def dIntB (g : Int → Int → Bool) : D → D → Option D
  | .int i, .int j => some (.bl (g i j))
  | _, _ => none
theorem ok_int2 {K : PySem.W.Frag} {g : Int → Int → Int} : R2Ok K cl (rI0 fun i j => .int (g i j)) (dInt2 g) := fun G H x y dx dy d Q hle _ rx ry e q => by
  unfold dInt2 at e
  split at e
  · cases e
    cases rx
    cases ry
    exact ⟨_, _, rfl, rfl, q _ _ _ (Ext.refl hle) rfl⟩
  · cases e
theorem ok_intB {K : PySem.W.Frag} {g : Int → Int → Bool} : R2Ok K cl (rI0 fun i j => .bl (g i j)) (dIntB g) := fun G H x y dx dy d Q hle _ rx ry e q => by
  unfold dIntB at e
  split at e
  · cases e
    cases rx
    cases ry
    exact ⟨_, _, rfl, rfl, q _ _ _ (Ext.refl hle) rfl⟩
  · cases e
theorem ok_int2c {K : PySem.W.Frag} {c : Int → Int → Bool} {C : Int → Int → Prop} {g : Int → Int → Int} (hc : ∀ i j, c i j = true → C i j) : R2Ok K cl (rI C fun i j => .int (g i j)) (dInt2c c g) := fun G H x y dx dy d Q hle _ rx ry e q => by
  unfold dInt2c at e
  split at e
  · split at e
    · rename_i z
      cases e
      cases rx
      cases ry
      exact ⟨_, _, rfl, rfl, hc _ _ z, q _ _ _ (Ext.refl hle) rfl⟩
    · cases e
  · cases e
def dAdd := dInt2 fun i j => i + j
def dSub := dInt2 fun i j => i - j
def dMul := dInt2c (fun i j => decide (-(2 ^ 64) < i ∧ i < 2 ^ 64 ∨ -(2 ^ 64) < j ∧ j < 2 ^ 64)) fun i j => i * j
def dFdiv := dInt2c (fun _ j => decide (0 < j ∧ j < 1073741824)) fun i j => i / j
def dMod := dInt2c (fun _ j => decide (0 < j)) fun i j => i % j
def dPow := dInt2c (fun i j => decide (0 ≤ j ∧ j ≤ 1000000 ∧ i.natAbs < 2 ^ 64)) fun i j => i ^ j.toNat
theorem sd_add {ga gb : MD} (ha : SD X cl a ga) (hb : SD X cl b gb) : SD X cl (.BinOp a .Add b pos) (mOp2 dAdd ga gb) := sd_bin op_add ok_int2 ha hb
theorem sd_sub {ga gb : MD} (ha : SD X cl a ga) (hb : SD X cl b gb) : SD X cl (.BinOp a .Sub b pos) (mOp2 dSub ga gb) := sd_bin op_sub ok_int2 ha hb
theorem sd_mul {ga gb : MD} (ha : SD X cl a ga) (hb : SD X cl b gb) : SD X cl (.BinOp a .Mult b pos) (mOp2 dMul ga gb) := sd_bin op_mul (ok_int2c fun i j h => by have h2 := of_decide_eq_true h; exact h2) ha hb
theorem sd_fdiv {ga gb : MD} (ha : SD X cl a ga) (hb : SD X cl b gb) : SD X cl (.BinOp a .FloorDiv b pos) (mOp2 dFdiv ga gb) := sd_bin op_fdiv (ok_int2c fun i j h => by have h2 := of_decide_eq_true h; exact h2) ha hb
theorem sd_mod {ga gb : MD} (ha : SD X cl a ga) (hb : SD X cl b gb) : SD X cl (.BinOp a .Mod b pos) (mOp2 dMod ga gb) := sd_bin op_mod (ok_int2c fun i j h => by have h2 := of_decide_eq_true h; exact h2) ha hb
theorem sd_pow {ga gb : MD} (ha : SD X cl a ga) (hb : SD X cl b gb) : SD X cl (.BinOp a .Pow b pos) (mOp2 dPow ga gb) := sd_bin op_pow (ok_int2c fun i j h => by have h2 := of_decide_eq_true h; exact h2) ha hb
theorem sd_lt {ga gb : MD} (ha : SD X cl a ga) (hb : SD X cl b gb) : SD X cl (.Compare a [.Lt] [b] pos) (mOp2 (dIntB fun i j => decide (i < j)) ga gb) := sd_cmp op_lt ok_intB ha hb (nomark _)
theorem sd_le {ga gb : MD} (ha : SD X cl a ga) (hb : SD X cl b gb) : SD X cl (.Compare a [.LtE] [b] pos) (mOp2 (dIntB fun i j => decide (i ≤ j)) ga gb) := sd_cmp op_le ok_intB ha hb (nomark _)
theorem sd_gt {ga gb : MD} (ha : SD X cl a ga) (hb : SD X cl b gb) : SD X cl (.Compare a [.Gt] [b] pos) (mOp2 (dIntB fun i j => decide (j < i)) ga gb) := sd_cmp op_gt ok_intB ha hb (nomark _)
theorem sd_ge {ga gb : MD} (ha : SD X cl a ga) (hb : SD X cl b gb) : SD X cl (.Compare a [.GtE] [b] pos) (mOp2 (dIntB fun i j => decide (j ≤ i)) ga gb) := sd_cmp op_ge ok_intB ha hb (nomark _)
def dNeg : D → Option D
  | .int i => some (.int (-i))
  | _ => none
theorem sd_neg {ga : MD} (ha : SD X cl a ga) : SD X cl (.UnaryOp .USub a pos) (mOp1 dNeg ga) := sd_un un_neg (fun G H x dx d Q hle _ rx e q => by
  unfold dNeg at e
  split at e
  · cases e
    cases rx
    exact ⟨_, rfl, q _ _ _ (Ext.refl hle) rfl⟩
  · cases e) ha
end
end PI
set_option Elab.async false
set_option linter.all false
set_option maxRecDepth 100000
set_option maxHeartbeats 1000000
set_option autoImplicit false
/-! PI3: hiding roots, arguments, calls. -/
namespace PI
open PySem PySem.Spec L2

section
variable {K : PySem.W.Frag} {cl : Cl} {G G' H H' : Hp} {L L' : Lab} {R R' : Roots} {σ σ' τ : St} {ρ ρ' ω : Rho}

theorem rootsOf_app (hl : σ.length = ρ.length) (i : Nat) : rootsOf (σ ++ τ) (ρ ++ ω) i = if i < ρ.length then rootsOf σ ρ i else rootsOf τ ω (i - ρ.length) := by
  unfold rootsOf
  by_cases h : i < ρ.length
  · rw [if_pos h, List.getElem?_append_left (by omega), List.getElem?_append_left h]
  · rw [if_neg h, List.getElem?_append_right (by omega), List.getElem?_append_right (by omega), hl]
theorem rootsOf_ge {i : Nat} (h : ρ.length ≤ i) : rootsOf σ ρ i = none := by
  unfold rootsOf
  rw [List.getElem?_eq_none h]
  split
  · rename_i e1 e2; cases e2
  · rfl
theorem SRep.of_rep (hl : σ.length = ρ.length) (ha : ∀ (i : Nat) (o : O), ρ[i]? = some (some o) → ∃ v, σ[i]? = some (some v)) (h : RRep K cl H G L R) (e : ∀ i, R i = rootsOf σ ρ i) : SRep K cl σ H G L ρ :=
  ⟨hl, ha, by rw [show rootsOf σ ρ = R from funext fun i => (e i).symm]; exact h⟩

/-- the slots alone, the temporary roots hidden -/
def lowK (n : Nat) : Nat → Option Nat := fun i => if i < n then some i else none
theorem lowK_iff {n : Nat} (i j : Nat) : lowK n i = some j ↔ lowK n j = some i := by
  unfold lowK
  constructor <;> intro h <;> split at h <;> simp_all
theorem lowK_some {n i j : Nat} : lowK n i = some j ↔ i = j ∧ i < n := by
  unfold lowK
  split <;> rename_i h
  · constructor
    · intro e; cases e; exact ⟨rfl, h⟩
    · rintro ⟨rfl, _⟩; rfl
  · constructor
    · intro e; cases e
    · rintro ⟨_, z⟩; exact absurd z h
theorem SRep.low (h : SRep K cl (σ ++ τ) H G L (ρ ++ ω)) (hl : σ.length = ρ.length) : SRep K cl σ H G (subL L (lowK ρ.length)) ρ := by
  refine SRep.of_rep hl (fun i o e => ?_) (h.rep.sub (lowK ρ.length) (lowK ρ.length) lowK_iff) fun i => ?_
  · have hi := (List.getElem?_eq_some_iff.mp e).1
    obtain ⟨v, ev⟩ := h.all i o (by rw [List.getElem?_append_left hi]; exact e)
    exact ⟨v, by rw [List.getElem?_append_left (by omega)] at ev; exact ev⟩
  · unfold lowK
    by_cases hi : i < ρ.length
    · rw [if_pos hi]
      show rootsOf (σ ++ τ) (ρ ++ ω) i = _
      rw [rootsOf_app hl, if_pos hi]
    · rw [if_neg hi, rootsOf_ge (by omega)]
      rfl

/-- more values evaluated beside temporary roots -/
theorem SRep.beside {ν : St} {ξ : Rho} (h : SRep K cl (σ ++ τ) H G L (ρ ++ ω)) (hl : σ.length = ρ.length) (h' : SRep K cl (σ ++ ν) H' G' L' (ρ' ++ ξ)) (hl' : σ.length = ρ'.length) (f : Frame H G (subL L (lowK ρ.length)) H' G' L') :
    ∃ L2, SRep K cl (σ ++ (τ ++ ν)) H' G' L2 (ρ' ++ (ω ++ ξ)) ∧ Frame H G L H' G' L2 := by
  have hn : ρ'.length = ρ.length := by omega
  have hτ : τ.length = ω.length := by have := h.len; simp at this; omega
  have hν : ν.length = ξ.length := by have := h'.len; simp at this; omega
  let n := ρ.length
  let k := ω.length
  let m : Nat → Option Nat := fun i => if i < n then some i else if n + k ≤ i then some (i - k) else none
  let m' : Nat → Option Nat := fun j => if j < n then some j else some (j + k)
  let hid : Nat → Bool := fun i => decide (n ≤ i ∧ i < n + k)
  have hm : ∀ i j, m' j = some i ↔ m i = some j := fun i j => by
    simp only [m, m']
    constructor
    · intro e
      split at e
      · cases e
        rename_i z
        rw [if_pos z]
      · cases e
        rename_i z1
        rw [if_neg (by omega), if_pos (by omega)]
        congr 1
        omega
    · intro e
      split at e
      · cases e
        rename_i z
        rw [if_pos z]
      · split at e
        · cases e
          rename_i z1 z2
          rw [if_neg (by omega)]
          congr 1
          omega
        · cases e
  have hh : ∀ i, hid i = true → lowK n i = none ∧ m i = none := fun i z => by
    have z2 := of_decide_eq_true z
    refine ⟨?_, ?_⟩
    · unfold lowK; rw [if_neg (by omega)]
    · simp only [m]; rw [if_neg (by omega), if_neg (by omega)]
  obtain ⟨r, f2⟩ := h.rep.back (k := lowK n) (k' := lowK n) lowK_iff h'.rep f hid m m' hm hh
  refine ⟨_, SRep.of_rep (by simp; omega) (fun i o e => ?_) r fun i => ?_, f2⟩
  · by_cases h1 : i < n
    · rw [List.getElem?_append_left (by omega)] at e
      obtain ⟨v', e'⟩ := h'.all i o (by rw [List.getElem?_append_left (by omega)]; exact e)
      rw [List.getElem?_append_left (by omega)] at e'
      exact ⟨v', by rw [List.getElem?_append_left (by omega)]; exact e'⟩
    · rw [List.getElem?_append_right (by omega)] at e
      rw [List.getElem?_append_right (by omega)]
      by_cases h2 : i < n + k
      · rw [List.getElem?_append_left (by omega)] at e
        rw [List.getElem?_append_left (by omega)]
        obtain ⟨v', e'⟩ := h.all i o (by rw [List.getElem?_append_right (by omega)]; rw [← hn]; exact e)
        rw [List.getElem?_append_right (by omega)] at e'
        exact ⟨v', e'⟩
      · rw [List.getElem?_append_right (by omega)] at e
        rw [List.getElem?_append_right (by omega)]
        obtain ⟨v', e'⟩ := h'.all (i - k) o (by rw [List.getElem?_append_right (by omega), ← e]; congr 1; omega)
        rw [List.getElem?_append_right (by omega)] at e'
        exact ⟨v', by rw [← e']; congr 1; omega⟩
  · conv => rhs; rw [rootsOf_app hl']
    by_cases h1 : i < n
    · have z : hid i = false := decide_eq_false (by omega)
      simp only [z]
      have : m i = some i := by simp only [m]; rw [if_pos h1]
      rw [this]
      show rootsOf (σ ++ ν) (ρ' ++ ξ) i = _
      rw [rootsOf_app hl', if_pos (by omega), if_pos (by omega)]
    · rw [if_neg (by omega)]
      rw [rootsOf_app hτ]
      by_cases h2 : i < n + k
      · have z : hid i = true := decide_eq_true (by omega)
        simp only [z]
        rw [rootsOf_app hl, if_neg h1, if_pos (by omega)]
        rw [show ρ'.length = ρ.length from hn]
      · have z : hid i = false := decide_eq_false (by omega)
        simp only [z]
        rw [if_neg (by omega)]
        have : m i = some (i - k) := by simp only [m]; rw [if_neg h1, if_pos (by omega)]
        rw [this]
        show rootsOf (σ ++ ν) (ρ' ++ ξ) (i - k) = _
        rw [rootsOf_app hl', if_neg (by omega)]
        congr 1
        omega

/-! ### a call: some roots go along under the callee's numbers, and come back -/
/-- the caller's roots behind a call -/
def backR : Rho → List Nat → Rho → Rho
  | ρ, i :: is, o :: os => backR (ρ.set i o) is os
  | ρ, _, _ => ρ
theorem backR_length : ∀ (is : List Nat) (os : Rho) (ρ : Rho), (backR ρ is os).length = ρ.length
  | [], _, _ => by unfold backR; rfl
  | _ :: _, [], _ => by unfold backR; rfl
  | i :: is, o :: os, ρ => by unfold backR; rw [backR_length is os]; simp
theorem backR_out : ∀ (is : List Nat) (os : Rho) (ρ : Rho) (i : Nat), i ∉ is → (backR ρ is os)[i]? = ρ[i]?
  | [], _, _, _, _ => by unfold backR; rfl
  | _ :: _, [], _, _, _ => by unfold backR; rfl
  | j :: is, o :: os, ρ, i, h => by
    unfold backR
    rw [backR_out is os _ i (fun z => h (List.mem_cons_of_mem _ z))]
    rw [List.getElem?_set_ne (fun z => h (by rw [z]; exact List.mem_cons_self))]
theorem backR_at : ∀ (is : List Nat) (os : Rho) (ρ : Rho) (i j : Nat) (o : Option O), is.Nodup → is[j]? = some i → os[j]? = some o → i < ρ.length → (backR ρ is os)[i]? = some o
  | [], _, _, _, _, _, _, e, _, _ => by simp at e
  | _ :: _, [], _, _, _, _, _, _, e, _ => by simp at e
  | k :: is, o' :: os, ρ, i, 0, o, nd, e1, e2, hi => by
    unfold backR
    simp at e1 e2
    subst e1 e2
    rw [backR_out is os _ k (List.nodup_cons.mp nd).1]
    rw [List.getElem?_set_self hi]
  | k :: is, o' :: os, ρ, i, j + 1, o, nd, e1, e2, hi => by
    unfold backR
    exact backR_at is os _ i j o (List.nodup_cons.mp nd).2 (by simpa using e1) (by simpa using e2) (by simpa using hi)

def srcK (src : List Nat) : Nat → Option Nat := fun j => src[j]?
def srcK' (src : List Nat) : Nat → Option Nat := fun i => src.findIdx? (· == i)
theorem srcK_iff {src : List Nat} (nd : src.Nodup) (i j : Nat) : srcK' src i = some j ↔ srcK src j = some i := by
  unfold srcK srcK'
  constructor
  · intro h
    obtain ⟨hj, e, _⟩ := List.findIdx?_eq_some_iff_getElem.mp h
    rw [List.getElem?_eq_getElem hj]
    simp at e
    rw [e]
  · intro h
    obtain ⟨hj, e⟩ := List.getElem?_eq_some_iff.mp h
    refine List.findIdx?_eq_some_iff_getElem.mpr ⟨hj, by simp [e], fun j' hj' => ?_⟩
    simp only [beq_iff_eq]
    intro z
    have := (List.getElem_inj nd).mp (z.trans e.symm)
    omega

theorem SRep.enter (h : SRep K cl σ H G L ρ) {src : List Nat} (nd : src.Nodup) {vs : List V} {as : List O} (hv : vs.length = src.length) (ha : as.length = src.length)
    (hr : ∀ (j i : Nat), src[j]? = some i → ∃ v o, vs[j]? = some v ∧ as[j]? = some o ∧ rootsOf σ ρ i = some (v, o)) : SRep K cl (vs.map some) H G (subL L (srcK' src)) (as.map some) := by
  refine SRep.of_rep (by simp; omega) (fun i o e => ?_) (h.rep.sub (srcK src) (srcK' src) (srcK_iff nd)) fun j => ?_
  · have hi := (List.getElem?_eq_some_iff.mp e).1
    simp at hi
    exact ⟨vs[i], by simp [List.getElem?_eq_getElem (show i < vs.length by omega)]⟩
  · unfold srcK
    cases e : src[j]? with
    | none =>
      have : src.length ≤ j := List.getElem?_eq_none_iff.mp e
      rw [rootsOf_ge (by simp; omega)]
      rfl
    | some i =>
      obtain ⟨v, o, e1, e2, e3⟩ := hr j i e
      show rootsOf σ ρ i = _
      rw [e3]
      exact (rootsOf_some.mpr ⟨by simp [e1], by simp [e2]⟩).symm

theorem SRep.leave (h : SRep K cl (σ ++ τ) H G L (ρ ++ ω)) (hl : σ.length = ρ.length) {src : List Nat} (nd : src.Nodup) {vs : List V} {as' : Rho} (ha' : as'.length = src.length) (hv : vs.length = src.length)
    (hsv : ∀ (j i : Nat), src[j]? = some i → i < ρ.length → ∃ v, vs[j]? = some v ∧ σ[i]? = some (some v)) {v : V} {r : O}
    (h' : SRep K cl (vs.map some ++ [some v]) H' G' L' (as' ++ [some r])) (f : Frame H G (subL L (srcK' src)) H' G' L') :
    ∃ L2, SRep K cl (σ ++ [some v]) H' G' L2 (backR ρ src as' ++ [some r]) ∧ Frame H G L H' G' L2 := by
  let n := ρ.length
  let p := src.length
  let m : Nat → Option Nat := fun i => if i < n then srcK' src i else if i = n then some p else none
  let m' : Nat → Option Nat := fun j => if j < p then (match src[j]? with
    | some i => if i < n then some i else none
    | none => none) else if j = p then some n else none
  let hid : Nat → Bool := fun i => decide (i < n) && (srcK' src i).isNone
  have bl : (backR ρ src as').length = n := backR_length _ _ _
  have hm : ∀ i j, m' j = some i ↔ m i = some j := fun i j => by
    simp only [m, m']
    constructor
    · intro e
      split at e
      · split at e
        · rename_i i' e1
          split at e
          · rename_i z
            cases e
            rw [if_pos z]
            exact (srcK_iff nd i j).mpr e1
          · cases e
        · cases e
      · split at e
        · rename_i z
          cases e
          rw [if_neg (Nat.lt_irrefl _), if_pos rfl, z]
        · cases e
    · intro e
      split at e
      · rename_i z
        have e1 := (srcK_iff nd i j).mp e
        unfold srcK at e1
        have hj := (List.getElem?_eq_some_iff.mp e1).1
        rw [if_pos (show j < p from hj), e1]
        simp only [if_pos z]
      · split at e
        · rename_i z
          cases e
          rw [if_neg (Nat.lt_irrefl _), if_pos rfl, z]
        · cases e
  have hh : ∀ i, hid i = true → srcK' src i = none ∧ m i = none := fun i z => by
    simp only [hid, Bool.and_eq_true, decide_eq_true_eq, Option.isNone_iff_eq_none] at z
    refine ⟨z.2, ?_⟩
    simp only [m]
    rw [if_pos z.1]
    exact z.2
  obtain ⟨rr, f2⟩ := h.rep.back (k := srcK src) (k' := srcK' src) (srcK_iff nd) h'.rep f hid m m' hm hh
  have at_ : ∀ (i j : Nat), src[j]? = some i → i < n → ∃ v o, vs[j]? = some v ∧ σ[i]? = some (some v) ∧ as'[j]? = some o ∧ (backR ρ src as')[i]? = some o := fun i j e hi => by
    obtain ⟨v1, e1, e2⟩ := hsv j i e hi
    have hj := (List.getElem?_eq_some_iff.mp e).1
    have e3 : as'[j]? = some as'[j] := List.getElem?_eq_getElem (by omega)
    exact ⟨v1, _, e1, e2, e3, backR_at src as' ρ i j _ nd e e3 hi⟩
  refine ⟨_, SRep.of_rep (by simp; omega) (fun i o e => ?_) rr fun i => ?_, f2⟩
  · rw [get_app] at e ⊢
    rw [bl] at e
    split at e
    · rename_i hi
      rw [if_pos (by omega)]
      cases q : srcK' src i with
      | none =>
        have : i ∉ src := fun z => by
          have := List.findIdx?_eq_none_iff.mp q i z
          simp at this
        rw [backR_out _ _ _ _ this] at e
        obtain ⟨v', e'⟩ := h.all i o (by rw [List.getElem?_append_left hi]; exact e)
        exact ⟨v', by rw [List.getElem?_append_left (by omega)] at e'; exact e'⟩
      | some j =>
        obtain ⟨v1, o1, _, e2, _, _⟩ := at_ i j ((srcK_iff nd i j).mp q) hi
        exact ⟨v1, e2⟩
    · split at e
      · rename_i z
        rw [if_neg (by omega), if_pos (by omega)]
        exact ⟨v, rfl⟩
      · cases e
  · conv => rhs; rw [rootsOf_app (by omega), bl]
    by_cases hi : i < n
    · rw [if_pos hi]
      cases q : srcK' src i with
      | none =>
        have z : hid i = true := by
          simp only [hid, q, Option.isNone_none, Bool.and_true]
          exact decide_eq_true hi
        simp only [z]
        rw [rootsOf_app hl, if_pos hi]
        have : i ∉ src := fun z => by
          have := List.findIdx?_eq_none_iff.mp q i z
          simp at this
        unfold rootsOf
        rw [backR_out _ _ _ _ this]
      | some j =>
        have z : hid i = false := by
          simp only [hid, q, Option.isNone_some, Bool.and_false]
        have em : m i = some j := by simp only [m]; rw [if_pos hi]; exact q
        simp only [z, em, Option.bind_some]
        obtain ⟨v1, o1, e1, e2, e3, e4⟩ := at_ i j ((srcK_iff nd i j).mp q) hi
        have hj := (List.getElem?_eq_some_iff.mp e1).1
        rw [rootsOf_app (by first | omega | (simp; omega)), if_pos (by first | omega | (simp; omega))]
        unfold rootsOf
        rw [e2, e4, e3]
        have : (vs.map some)[j]? = some (some v1) := by simp [e1]
        rw [this]
    · rw [if_neg hi]
      have z : hid i = false := by
        simp only [hid]
        rw [decide_eq_false hi]
        rfl
      simp only [z]
      by_cases h2 : i = n
      · have em : m i = some p := by simp only [m]; rw [if_neg hi, if_pos h2]
        simp only [em, Option.bind_some]
        rw [rootsOf_app (by first | omega | (simp; omega)), if_neg (by first | omega | (simp; omega))]
        congr 1
        first | omega | (simp; omega)
      · have em : m i = none := by simp only [m]; rw [if_neg hi, if_neg h2]
        simp only [em, Option.bind_none]
        rw [rootsOf_ge (by simp; omega)]
end
end PI
set_option Elab.async false
set_option linter.all false
set_option maxRecDepth 100000
set_option maxHeartbeats 1000000
set_option autoImplicit false
/-! PI4: argument lists, calls, displays. -/
namespace PI
open PySem PySem.Spec L2

/-- a def's meaning: its arguments' trees; what it hands back, and the arguments' trees behind -/
abbrev Fn := List O → Option (O × Rho)
/-- the promise of a def -/
def spOf (K : PySem.W.Frag) (cl : Cl) (fn : Fn) : Sp := fun vs H Q _ => ∃ G L as r as', SRep K cl (vs.map some) H G L (as.map some) ∧ fn as = some (r, as') ∧ as'.length = as.length ∧
  ∀ v H' G' L', SRep K cl (vs.map some ++ [some v]) H' G' L' (as' ++ [some r]) → Frame H G L H' G' L' → Q v H'

/-- which arguments are names whose tree goes along (their slots) -/
abbrev Lends := List (Option Nat)
abbrev MA := Rho → Option (Rho × Rho)
section
variable (X : Cx) (cl : Cl)
def tArgs (ks : Lends) (f : MA) : TA := fun σ H Q => ∃ G L ρ ω ρ', SRep X.K cl σ H G L ρ ∧ f ρ = some (ω, ρ') ∧ ∀ vs H' G' L', SRep X.K cl (σ ++ vs.map some) H' G' L' (ρ' ++ ω) → ρ'.length = ρ.length →
  (∀ (k i : Nat), ks[k]? = some (some i) → ∃ v, vs[k]? = some v ∧ σ[i]? = some (some v)) → Frame H G L H' G' L' → Q vs H'
def SA (es : List Expr) (ks : Lends) (f : MA) : Prop := PA X es (tArgs X cl ks f)
end
section
variable {X : Cx} {cl : Cl} {e a b c : Expr} {es : List Expr} {pos : Pos}
theorem PA.weak {t t' : TA} (h : PA X es t) (w : ∀ σ H Q, t' σ H Q → t σ H Q) : PA X es t' := ⟨fun pos pins s σ H Q I q => h.run pos pins s σ H Q I (w σ H Q q)⟩
def aNil : MA := fun ρ => some ([], ρ)
theorem sa_nil : SA X cl [] [] aNil := PA.weak pa_nil fun σ H Q ⟨G, L, ρ, ω, ρ', hs, hg, q⟩ => by
  cases hg
  exact q [] H G L (by simpa using hs) rfl (fun k i h => by simp at h) Frame.refl
def aCons (g : MO) (f : MA) : MA := fun ρ => match g ρ with
  | some (o, ρ1) => (match f ρ1 with
    | some (ω, ρ2) => some (some o :: ω, ρ2)
    | none => none)
  | none => none
theorem sa_cons {g : MO} {ks : Lends} {f : MA} (he : SO X cl e g) (hr : SA X cl es ks f) (hs : starEach (e :: es) X.env = (false, eval e X.env) :: starEach es X.env := by rfl) : SA X cl (e :: es) (none :: ks) (aCons g f) :=
  PA.weak (pa_cons he hr hs) fun σ H Q ⟨G, L, ρ, ω, ρ', hs, hg, q⟩ => by
    unfold aCons at hg
    split at hg
    · rename_i o ρ1 e1
      split at hg
      · rename_i ω2 ρ2 e2
        cases hg
        refine ⟨G, L, ρ, o, ρ1, hs, e1, fun x H1 G1 L1 s1 f1 => ?_⟩
        have l1 : σ.length = ρ1.length := by simpa using s1.len
        refine ⟨G1, _, ρ1, ω2, _, s1.low l1, e2, fun vs H2 G2 L2 s2 n2 le2 f2 => ?_⟩
        obtain ⟨L3, s3, f3⟩ := s1.beside l1 s2 (by omega) f2
        refine q (x :: vs) H2 G2 L3 (by simpa using s3) (by have := hs.len; omega) (fun k i h => ?_) (f1.trans f3)
        cases k with
        | zero => simp at h
        | succ k =>
          obtain ⟨v, h1, h2⟩ := le2 k i (by simpa using h)
          exact ⟨v, by simpa using h1, h2⟩
      · cases hg
    · cases hg
def aLend (i : Nat) (f : MA) : MA := fun ρ => match ρ[i]? with
  | some (some _) => (match f ρ with
    | some (ω, ρ2) => some (none :: ω, ρ2)
    | none => none)
  | _ => none
theorem sa_lend (i : Nat) {x : Str} {p : Pos} {ks : Lends} {f : MA} (h : PE X (.Name x p) (tVar i)) (hr : SA X cl es ks f) : SA X cl (.Name x p :: es) (some i :: ks) (aLend i f) :=
  PA.weak (pa_cons h hr) fun σ H Q ⟨G, L, ρ, ω, ρ', hs, hg, q⟩ => by
    unfold aLend at hg
    split at hg
    · rename_i o e1
      split at hg
      · rename_i ω2 ρ2 e2
        cases hg
        obtain ⟨v, ev⟩ := hs.all i o e1
        refine ⟨v, ev, G, _, ρ, ω2, _, hs, e2, fun vs H2 G2 L2 s2 n2 le2 f2 => ?_⟩
        -- the name's value stands beside as a root without a tree
        have s0 : SRep X.K cl (σ ++ [some v]) H G L (ρ ++ [none]) := by
          refine ⟨by simp [hs.len], fun j o' e' => ?_, ?_⟩
          · rw [get_app] at e' ⊢
            rw [hs.len]
            split at e'
            · rename_i z
              rw [if_pos z]
              exact hs.all j o' e'
            · split at e' <;> cases e'
          · have : rootsOf (σ ++ [some v]) (ρ ++ [none]) = rootsOf σ ρ := by
              funext j
              rw [rootsOf_app hs.len]
              split
              · rfl
              · rename_i z
                have e9 : rootsOf σ ρ j = none := rootsOf_ge (by omega)
                rw [e9]
                cases q : j - ρ.length with
                | zero => rfl
                | succ n => rfl
            rw [this]
            exact hs.rep
        have f0 : Frame H G (subL L (lowK ρ.length)) H2 G2 L2 := by
          refine ⟨fun b y hb hl => f2.keep b y hb ?_, f2.le⟩
          cases q : L b with
          | none => rfl
          | some p =>
            exfalso
            obtain ⟨j, r, rfl, hj⟩ := hs.rep.own b p q
            obtain ⟨⟨v1, o1⟩, e3⟩ := Option.isSome_iff_exists.mp hj
            have hlt : j < ρ.length := (List.getElem?_eq_some_iff.mp (rootsOf_some.mp e3).2).1
            rw [subL_of q (lowK_some.mpr ⟨rfl, hlt⟩)] at hl
            exact nomatch hl
        obtain ⟨L3, s3, f3⟩ := s0.beside hs.len s2 (by have := hs.len; omega) f0
        refine q (v :: vs) H2 G2 L3 (by simpa using s3) n2 (fun k j h => ?_) f3
        cases k with
        | zero =>
          simp at h
          subst h
          exact ⟨v, by simp, ev⟩
        | succ k =>
          obtain ⟨v', h1, h2⟩ := le2 k j (by simpa using h)
          exact ⟨v', by simpa using h1, h2⟩
      · cases hg
    · cases hg

/-! ### calls -/
/-- the arguments' trees -/
def gather : Lends → Rho → Rho → Option (List O)
  | [], [], _ => some []
  | none :: ks, some o :: ω, ρ => (match gather ks ω ρ with
    | some os => some (o :: os)
    | none => none)
  | some i :: ks, none :: ω, ρ => (match ρ[i]? with
    | some (some o) => (match gather ks ω ρ with
      | some os => some (o :: os)
      | none => none)
    | _ => none)
  | _, _, _ => none
/-- the caller's slots behind the call -/
def setL : Lends → Rho → Rho → Rho
  | none :: ks, _ :: os, ρ => setL ks os ρ
  | some i :: ks, o :: os, ρ => setL ks os (ρ.set i o)
  | _, _, ρ => ρ
def mCall (fn : Fn) (ks : Lends) (f : MA) : MO := fun ρ => match f ρ with
  | some (ω, ρ1) => (match gather ks ω ρ1 with
    | some as => (match fn as with
      | some (r, as') => (match decide (as'.length = as.length) with
        | true => some (r, setL ks as' ρ1)
        | false => none)
      | none => none)
    | none => none)
  | none => none
def lendOk : Lends → Bool
  | [] => true
  | none :: ks => lendOk ks
  | some i :: ks => !ks.contains (some i) && lendOk ks
def srcOf (n : Nat) : Nat → Lends → List Nat
  | _, [] => []
  | k, none :: ks => (n + k) :: srcOf n (k + 1) ks
  | k, some i :: ks => i :: srcOf n (k + 1) ks
theorem srcOf_length (n : Nat) : ∀ (k : Nat) (ks : Lends), (srcOf n k ks).length = ks.length
  | _, [] => rfl
  | k, none :: ks => by simp [srcOf, srcOf_length n (k + 1) ks]
  | k, some i :: ks => by simp [srcOf, srcOf_length n (k + 1) ks]
theorem srcOf_mem {n i : Nat} : ∀ (k : Nat) (ks : Lends), i ∈ srcOf n k ks → some i ∈ ks ∨ n + k ≤ i
  | _, [], h => by simp [srcOf] at h
  | k, none :: ks, h => by
    simp only [srcOf, List.mem_cons] at h
    rcases h with h | h
    · exact .inr (by omega)
    · rcases srcOf_mem (k + 1) ks h with z | z
      · exact .inl (List.mem_cons_of_mem _ z)
      · exact .inr (by omega)
  | k, some j :: ks, h => by
    simp only [srcOf, List.mem_cons] at h
    rcases h with h | h
    · exact .inl (by rw [h]; exact List.mem_cons_self)
    · rcases srcOf_mem (k + 1) ks h with z | z
      · exact .inl (List.mem_cons_of_mem _ z)
      · exact .inr (by omega)
theorem srcOf_nodup {n : Nat} : ∀ (k : Nat) (ks : Lends), lendOk ks = true → (∀ i, some i ∈ ks → i < n) → (srcOf n k ks).Nodup
  | _, [], _, _ => List.nodup_nil
  | k, none :: ks, h, hn => by
    refine List.nodup_cons.mpr ⟨fun z => ?_, srcOf_nodup (k + 1) ks h fun i hi => hn i (List.mem_cons_of_mem _ hi)⟩
    rcases srcOf_mem (k + 1) ks z with y | y
    · have := hn _ (List.mem_cons_of_mem _ y); omega
    · omega
  | k, some i :: ks, h, hn => by
    simp only [lendOk, Bool.and_eq_true] at h
    refine List.nodup_cons.mpr ⟨fun z => ?_, srcOf_nodup (k + 1) ks h.2 fun j hj => hn j (List.mem_cons_of_mem _ hj)⟩
    rcases srcOf_mem (k + 1) ks z with y | y
    · have h1 := h.1
      simp at h1
      exact h1 y
    · have := hn i List.mem_cons_self; omega
theorem gather_spec : ∀ (ks : Lends) (ω ρ : Rho) (as : List O), gather ks ω ρ = some as → as.length = ks.length ∧ ω.length = ks.length ∧ (∀ i, some i ∈ ks → i < ρ.length) ∧
    ∀ (n k j : Nat), n = ρ.length → ∀ i, (srcOf n k ks)[j]? = some i → ∃ o, as[j]? = some o ∧ ((i < n ∧ ks[j]? = some (some i) ∧ ρ[i]? = some (some o)) ∨ (i = n + k + j ∧ ks[j]? = some none ∧ ω[j]? = some (some o)))
  | [], [], _, as, h => by
    cases h
    exact ⟨rfl, rfl, fun i z => by simp at z, fun n k j _ i z => by simp [srcOf] at z⟩
  | none :: ks, some o :: ω, ρ, as, h => by
    unfold gather at h
    split at h
    · rename_i os e
      cases h
      obtain ⟨h1, h2, h3, h4⟩ := gather_spec ks ω ρ os e
      refine ⟨by simp [h1], by simp [h2], fun i z => h3 i (by simpa using z), fun n k j hn i z => ?_⟩
      cases j with
      | zero =>
        simp [srcOf] at z
        exact ⟨o, by simp, .inr ⟨by omega, by simp, by simp⟩⟩
      | succ j =>
        obtain ⟨o', e1, e2⟩ := h4 n (k + 1) j hn i (by simpa [srcOf] using z)
        refine ⟨o', by simpa using e1, ?_⟩
        rcases e2 with ⟨y1, y2, y3⟩ | ⟨y1, y2, y3⟩
        · exact .inl ⟨y1, by simpa using y2, y3⟩
        · exact .inr ⟨by omega, by simpa using y2, by simpa using y3⟩
    · cases h
  | some l :: ks, none :: ω, ρ, as, h => by
    unfold gather at h
    split at h
    · rename_i o e0
      split at h
      · rename_i os e
        cases h
        have hl := (List.getElem?_eq_some_iff.mp e0).1
        obtain ⟨h1, h2, h3, h4⟩ := gather_spec ks ω ρ os e
        refine ⟨by simp [h1], by simp [h2], fun i z => ?_, fun n k j hn i z => ?_⟩
        · rcases List.mem_cons.mp z with y | y
          · cases y; exact hl
          · exact h3 i y
        · cases j with
          | zero =>
            simp [srcOf] at z
            subst z
            exact ⟨o, by simp, .inl ⟨by omega, by simp, e0⟩⟩
          | succ j =>
            obtain ⟨o', e1, e2⟩ := h4 n (k + 1) j hn i (by simpa [srcOf] using z)
            refine ⟨o', by simpa using e1, ?_⟩
            rcases e2 with ⟨y1, y2, y3⟩ | ⟨y1, y2, y3⟩
            · exact .inl ⟨y1, by simpa using y2, y3⟩
            · exact .inr ⟨by omega, by simpa using y2, by simpa using y3⟩
      · cases h
    · cases h
  | [], _ :: _, _, _, h => by simp [gather] at h
  | none :: _, [], _, _, h => by simp [gather] at h
  | none :: _, none :: _, _, _, h => by simp [gather] at h
  | some _ :: _, [], _, _, h => by simp [gather] at h
  | some _ :: _, some _ :: _, _, _, h => by simp [gather] at h
theorem setL_back {n : Nat} : ∀ (ks : Lends) (os : Rho) (ρ : Rho) (k : Nat), n = ρ.length → os.length = ks.length → backR ρ (srcOf n k ks) os = setL ks os ρ
  | [], os, ρ, _, _, _ => by simp [srcOf, backR, setL]
  | none :: ks, [], ρ, _, _, h => by simp at h
  | some _ :: ks, [], ρ, _, _, h => by simp at h
  | none :: ks, o :: os, ρ, k, hn, h => by
    simp only [srcOf, backR, setL]
    rw [List.set_eq_of_length_le (by omega)]
    exact setL_back ks os ρ (k + 1) hn (by simpa using h)
  | some i :: ks, o :: os, ρ, k, hn, h => by
    simp only [srcOf, backR, setL]
    exact setL_back ks os _ (k + 1) (by simpa using hn) (by simpa using h)

/-- the def that the name x stands for -/
structure Callee (P : Program) (w : World) (K : PySem.W.Frag) (mg : Str → Option Value) (base : Heap) (A : Around) (cl : Cl) (x : Str) (fn : Fn) : Prop where
  ex : ∃ f fd ps k, FnOk P w K mg base CX0 k f fd ps (spOf K cl fn) ∧ Room k A ∧ mg x = some (.ref f) ∧ PySem.W.keepIn K (.ref f) = true ∧ Binds K fd ps []
theorem called {fn : Fn} {ks : Lends} {f : MA} (hk : lendOk ks = true) {σ : St} {H : Hp} {Q : VK} {E : XK} (h : tO X cl (mCall fn ks f) σ H Q) : tArgs X cl ks f σ H fun vs H1 => spOf X.K cl fn (vs ++ []) H1 Q E := by
  obtain ⟨G, L, ρ, o, ρ', hs, hg, q⟩ := h
  unfold mCall at hg
  split at hg
  · rename_i ω ρ1 e1
    split at hg
    · rename_i as e2
      split at hg
      · rename_i r as' e3
        split at hg
        · rename_i e4
          cases hg
          have e4 := of_decide_eq_true e4
          refine ⟨G, L, ρ, ω, ρ1, hs, e1, fun vs H1 G1 L1 s1 n1 le1 f1 => ?_⟩
          show spOf X.K cl fn (vs ++ []) H1 Q E
          rw [List.append_nil]
          have l1 : σ.length = ρ1.length := by have := hs.len; omega
          obtain ⟨g1, g2, g3, g4⟩ := gather_spec ks ω ρ1 as e2
          have nd := srcOf_nodup (n := ρ1.length) 0 ks hk g3
          have hv : vs.length = ks.length := by have := s1.len; simp at this; omega
          have sl := srcOf_length ρ1.length 0 ks
          have key : ∀ (j i : Nat), (srcOf ρ1.length 0 ks)[j]? = some i → ∃ v o, vs[j]? = some v ∧ as[j]? = some o ∧ rootsOf (σ ++ vs.map some) (ρ1 ++ ω) i = some (v, o) ∧ (i < ρ1.length → σ[i]? = some (some v)) := fun j i z => by
            obtain ⟨o, a1, a2⟩ := g4 ρ1.length 0 j rfl i z
            rcases a2 with ⟨b1, b2, b3⟩ | ⟨b1, b2, b3⟩
            · obtain ⟨v, c1, c2⟩ := le1 j i b2
              exact ⟨v, o, c1, a1, rootsOf_some.mpr ⟨by rw [List.getElem?_append_left (by omega)]; exact c2, by rw [List.getElem?_append_left b1]; exact b3⟩, fun _ => c2⟩
            · have hj : j < vs.length := by
                have := (List.getElem?_eq_some_iff.mp z).1
                omega
              refine ⟨vs[j], o, List.getElem?_eq_getElem hj, a1, rootsOf_some.mpr ⟨?_, ?_⟩, fun y => by omega⟩
              · rw [List.getElem?_append_right (by omega), show i - σ.length = j by omega]
                simp [List.getElem?_eq_getElem hj]
              · rw [List.getElem?_append_right (by omega), show i - ρ1.length = j by omega]
                exact b3
          refine ⟨G1, _, as, _, as', s1.enter nd (by omega) (by omega) (fun j i z => ?_), e3, e4, fun v H2 G2 L2 s2 f2 => ?_⟩
          · obtain ⟨v, o, c1, c2, c3, _⟩ := key j i z
            exact ⟨v, o, c1, c2, c3⟩
          · obtain ⟨L3, s3, f3⟩ := s1.leave l1 nd (by omega) (by omega) (fun j i z y => by
              obtain ⟨v, o, c1, _, _, c4⟩ := key j i z
              exact ⟨v, c1, c4 y⟩) s2 f2
            rw [setL_back ks as' ρ1 0 rfl (by omega)] at s3
            exact q v H2 G2 L3 s3 (f1.trans f3)
        · cases hg
      · cases hg
    · cases hg
  · cases hg
theorem so_call {x : Str} {p : Pos} {fn : Fn} {ks : Lends} {f : MA} (C : Callee X.prog X.w X.K X.mg X.base X.A cl x fn) (hk : lendOk ks = true) (ha : SA X cl (e :: es) ks f) (hg : Gl X x := by rfl) (hdb : (x == ("__debug__" : Str)) = false := by decide)
    (he : starEach (e :: es) X.env = (false, eval e X.env) :: starEach es X.env := by rfl) (hpl : (backTo pos (starEach es X.env)).any (·.1) = false := by rfl) : SO X cl (.Call (.Name x p) (e :: es) [] pos) (mCall fn ks f) := by
  obtain ⟨a, fd, ps, k, F, hr, hm, kp, hb⟩ := C.ex
  exact PE.weak (pe_call F hr hg hm kp hb .nil pass0 ha hdb he hpl) fun σ H Q h => called hk h

/-! ### displays -/
def allO : Rho → Option (List O)
  | [] => some []
  | some o :: ω => (match allO ω with
    | some os => some (o :: os)
    | none => none)
  | none :: _ => none
theorem allO_some : ∀ {ω : Rho} {os : List O}, allO ω = some os → ω = os.map some
  | [], _, h => by cases h; rfl
  | some o :: ω, os, h => by
    unfold allO at h
    split at h
    · rename_i os' e
      cases h
      rw [allO_some e]
      rfl
    · cases h
  | none :: _, _, h => by simp [allO] at h
end
end PI
set_option Elab.async false
set_option linter.all false
set_option maxRecDepth 100000
set_option maxHeartbeats 4000000
set_option autoImplicit false
/-! PI5: operators on texts and tuples, equality, displays, built-ins. -/
namespace PI
section
open PySem PySem.Spec PyProof.Rows L2
/-- a tuple times 1 is itself -/
theorem tuple_mul1 (l : Addr) (items : Array Value) (n : Nat) (dd : Option Addr) (sl : Array (Option Value)) (x : Int) (u : Tok) (c0 : (decide (x < -(2 ^ 63)) || decide (x ≥ 2 ^ 63)) = false) (c1 : (items.isEmpty || x == 1) = true) :
    Meets (Builtin.«tuple.__mul__» ⟨[.ref l, .int x u], []⟩) (fun _ R s => s.heap.get? l = some { cls := .type "tuple", dict := dd, data := .seq items n, slots := sl } ∧ R (.ok (.ret (Value.ref l))) s) :=
  .of_wp fun prog w A R s h => by
    obtain ⟨hp, g, d, tk, os⟩ := s
    obtain ⟨hl, h⟩ := h
    have f1 := AutoSeq1.idx_int
    wp_walk using PySem.AutoSeq1.wpAny_loadPart' hl
    repeat (first
      | (refine wpAny_ite_false (decide_eq_false (by rw [c0]; exact Bool.false_ne_true)) ?_; wp_walk using PySem.AutoSeq1.wpAny_loadPart' hl)
      | (refine wpAny_ite_true (decide_eq_true c1) ?_; wp_walk using PySem.AutoSeq1.wpAny_loadPart' hl))
    exact ⟨_, rfl, h⟩
/-- a tuple that is not empty times 0 -/
theorem tuple_mul0 (l : Addr) (items : Array Value) (n : Nat) (dd : Option Addr) (sl : Array (Option Value)) (x : Int) (u : Tok) (c0 : (decide (x < -(2 ^ 63)) || decide (x ≥ 2 ^ 63)) = false) (c1 : (items.isEmpty || x == 1) = false) (c2 : (decide (x ≤ 0) || items.isEmpty) = true) :
    Meets (Builtin.«tuple.__mul__» ⟨[.ref l, .int x u], []⟩) (fun _ R s => s.heap.get? l = some { cls := .type "tuple", dict := dd, data := .seq items n, slots := sl } ∧
      R (.ok (.ret (Value.ref s.heap.objs.size))) { s with heap := s.heap.push { cls := Value.type "tuple", data := Data.seq #[] }, toks := s.toks }) :=
  .of_wp fun prog w A R s h => by
    obtain ⟨hp, g, d, tk, os⟩ := s
    obtain ⟨hl, h⟩ := h
    have f1 := AutoSeq1.idx_int
    wp_walk using PySem.AutoSeq1.wpAny_loadPart' hl
    repeat (first
      | (refine wpAny_ite_false (decide_eq_false (by rw [c0]; exact Bool.false_ne_true)) ?_; wp_walk using PySem.AutoSeq1.wpAny_loadPart' hl)
      | (refine wpAny_ite_false (decide_eq_false (by rw [c1]; exact Bool.false_ne_true)) ?_; wp_walk using PySem.AutoSeq1.wpAny_loadPart' hl)
      | (refine wpAny_ite_true (decide_eq_true c2) ?_; wp_walk using PySem.AutoSeq1.wpAny_loadPart' hl))
    exact ⟨_, rfl, h⟩
def rRepA (K : PySem.W.Frag) : R2 := fun x y H Q => ∃ l k xs, x = .ref l ∧ y = .int k ∧ SqT K H l xs ∧ k ≤ 1000 ∧ -1000 ≤ k ∧ xs.length ≤ 1000 ∧ ((xs = [] ∨ k = 1) → Q (.ref l) H) ∧ (xs ≠ [] → k ≠ 1 → ∀ p, H p = none → Q (.ref p) (upd H p (.tup (List.replicate k.toNat xs).flatten)))
theorem op_repA {X : Cx} : OpR X (binaryOp .Mult) (rRepA X.K) := by
  intro pins s σ H x y v u Q I rx ry h
  obtain ⟨l, k, xs, rfl, rfl, hT, h1, h0, hz, q1, q2⟩ := h
  by_cases hne : xs ≠ [] ∧ 2 ≤ k
  · exact op_repT pins s σ H (.ref l) (.int k) v u Q I rx ry ⟨l, k, xs, rfl, rfl, hT, hne.1, hne.2, h1, hz, q2 hne.1 (by omega)⟩
  cases rx
  obtain ⟨t, rfl⟩ := ry
  obtain ⟨its, r, ⟨⟨cls, dd, data, sl⟩, ho, hc, n, hd⟩, hs⟩ := I.tuple hT
  simp only at hc hd
  subst hc hd
  have hle : its.length = xs.length := r.length.symm
  have c0 : (decide (k < -(2 ^ 63)) || decide (k ≥ 2 ^ 63)) = false := by
    rw [decide_eq_false (by omega), decide_eq_false (by omega)] <;> rfl
  have hemp : its.toArray.isEmpty = decide (xs = []) := by
    cases xs with
    | nil =>
      have : its = [] := List.eq_nil_of_length_eq_zero (by simpa using hle)
      subst this
      rfl
    | cons a b =>
      cases its with
      | nil => simp at hle
      | cons c d => rfl
  by_cases e : xs = [] ∨ k = 1
  · have c1 : (its.toArray.isEmpty || k == 1) = true := by
      rw [hemp]
      rcases e with e | e
      · rw [decide_eq_true e] <;> rfl
      · rw [e]; simp
    refine wpAny_binaryOp_repeat_ref (T := "tuple") (U := "int") (by decide) ⟨_, ho, rfl⟩ (fun s' => typeIs_int s' k t) noFill_tuple_mul F.fills_int_mul F.slot_int_rmul repeat_tuple F.slot_int_index.lookup
      (call_meets F.slot_int_rmul (typeIs_int s k t) F.entry_int_rmul (F.args_int_rmul_2 _ _) (int_rmul_tuple k t l its.toArray n dd sl)
        ⟨ho, rfl, ⟨_, ho, rfl⟩, call_meets F.slot_tuple_mul ⟨_, ho, rfl⟩ F.entry_tuple_mul (F.args_tuple_mul_2 _ _) (tuple_mul1 l its.toArray n dd sl k t c0 c1) ⟨ho, ?_⟩⟩)
    exact ⟨.ref l, H, I, rfl, q1 e⟩
  · have e1 : xs ≠ [] := fun z => e (.inl z)
    have e2 : k ≠ 1 := fun z => e (.inr z)
    have hk : k ≤ 0 := by
      have : ¬ 2 ≤ k := fun z => hne ⟨e1, z⟩
      omega
    have c1 : (its.toArray.isEmpty || k == 1) = false := by
      rw [hemp, decide_eq_false e1, Bool.false_or]
      exact beq_eq_false_iff_ne.mpr e2
    have c2 : (decide (k ≤ 0) || its.toArray.isEmpty) = true := by
      rw [decide_eq_true hk] <;> rfl
    refine wpAny_binaryOp_repeat_ref (T := "tuple") (U := "int") (by decide) ⟨_, ho, rfl⟩ (fun s' => typeIs_int s' k t) noFill_tuple_mul F.fills_int_mul F.slot_int_rmul repeat_tuple F.slot_int_index.lookup
      (call_meets F.slot_int_rmul (typeIs_int s k t) F.entry_int_rmul (F.args_int_rmul_2 _ _) (int_rmul_tuple k t l its.toArray n dd sl)
        ⟨ho, rfl, ⟨_, ho, rfl⟩, call_meets F.slot_tuple_mul ⟨_, ho, rfl⟩ F.entry_tuple_mul (F.args_tuple_mul_2 _ _) (tuple_mul0 l its.toArray n dd sl k t c0 c1 c2) ⟨ho, ?_⟩⟩)
    have q := q2 e1 e2 s.heap.objs.size (I.hok.fresh (Nat.le_refl _))
    rw [show k.toNat = 0 by omega] at q
    refine ⟨.ref s.heap.objs.size, _, I.laid (t' := s.toks) (o := .tup []) (fun b ob q => Heap.get?_push_of_some _ q) (Nat.le_refl _) ?_, rfl, q⟩
    exact ⟨Nat.zero_le _, [], .nil, IsTup.new _ _⟩
end
end PI
set_option Elab.async false
set_option linter.all false
set_option maxRecDepth 100000
set_option maxHeartbeats 1000000
set_option autoImplicit false
/-! PI6: reading without taking; operators, displays, built-ins on frozen data. -/
namespace PI
open PySem PySem.Spec L2

mutual
def D.imm : D → Bool
  | .non => true
  | .bl _ => true
  | .int _ => true
  | .str _ => true
  | .tup ds => D.imms ds
  | _ => false
def D.imms : List D → Bool
  | [] => true
  | d :: ds => d.imm && D.imms ds
end
section
variable {K : PySem.W.Frag} {cl : Cl} {G G' H H' : Hp} {L L' : Lab} {R R' : Roots} {σ σ' τ : St} {ρ ρ' ω : Rho}
mutual
theorem RepV.imm (h : ∀ b xs, G b = some (.tup xs) → G' b = some (.tup xs)) : ∀ (d : D) (v : V), d.imm = true → RepV K cl G v d → RepV K cl G' v d
  | .non, _, _, r => r
  | .bl _, _, _, r => r
  | .int _, _, _, r => r
  | .str _, _, _, r => r
  | .tup ds, _, i, ⟨a, vs, e, s, r⟩ => ⟨a, vs, e, by
      rcases s with s | s
      · exact .inl (h _ _ s)
      · exact .inr s, RepVs.imm h ds vs (by simpa [D.imm] using i) r⟩
  | .lst _, _, i, _ => by simp [D.imm] at i
  | .rol _, _, i, _ => by simp [D.imm] at i
  | .dct _ _, _, i, _ => by simp [D.imm] at i
  | .obj _ _ _, _, i, _ => by simp [D.imm] at i
theorem RepVs.imm (h : ∀ b xs, G b = some (.tup xs) → G' b = some (.tup xs)) : ∀ (ds : List D) (vs : List V), D.imms ds = true → RepVs K cl G vs ds → RepVs K cl G' vs ds
  | [], _, _, r => r
  | d :: ds, _, i, ⟨v, ws, e, r, rs⟩ => by
    have i2 : d.imm = true ∧ D.imms ds = true := by simpa [D.imms] using i
    exact ⟨v, ws, e, RepV.imm h d v i2.1 r, RepVs.imm h ds ws i2.2 rs⟩
end
def viewAll (ρ : Rho) : Rho := ρ.map fun o => o.map fun t => .fz t.frz
theorem viewAll_some {i : Nat} {o : O} (h : (viewAll ρ)[i]? = some (some o)) : ∃ t, ρ[i]? = some (some t) ∧ o = .fz t.frz := by
  unfold viewAll at h
  rw [List.getElem?_map] at h
  cases e : ρ[i]? with
  | none => rw [e] at h; cases h
  | some x =>
    rw [e] at h
    cases x with
    | none => cases h
    | some t =>
      have h2 : (some (some (O.fz t.frz)) : Option (Option O)) = some (some o) := h
      cases h2
      exact ⟨t, rfl, rfl⟩
/-- all that is owned looked at as frozen -/
def viewG (H G : Hp) (L : Lab) : Hp := fun b => match L b with
  | some _ => H b
  | none => G b
theorem SRep.view (h : SRep K cl σ H G L ρ) : SRep K cl σ H (viewG H G L) (fun _ => none) (viewAll ρ) := by
  have hle : Le G (viewG H G L) := fun b x hb => by
    unfold viewG
    split
    · exact h.le b x hb
    · exact hb
  refine ⟨by rw [h.len]; simp [viewAll], fun i o e => ?_, ⟨fun b x hb => ?_, fun b p e => by simp at e, fun b xs e => hle _ _ (h.rep.imm b xs e), fun i v o e => ?_, fun b p e => by simp at e⟩⟩
  · obtain ⟨t, e1, _⟩ := viewAll_some e
    exact h.all i t e1
  · unfold viewG at hb
    split at hb
    · exact hb
    · exact h.le b x hb
  · obtain ⟨e1, e2⟩ := rootsOf_some.mp e
    obtain ⟨t, e3, rfl⟩ := viewAll_some e2
    have r := h.rep.rep i v t (rootsOf_some.mpr ⟨e1, e3⟩)
    exact RepO.freeze (L := L) (H := H) (p := [i]) hle (fun a q x l hx => by
      unfold viewG
      rw [l]
      exact hx) t v [] (by simpa using r)
/-- behind an evaluation in that view: the true state, with the new tuples -/
def tupG (H' G : Hp) : Hp := fun b => match H' b with
  | some (.tup xs) => some (.tup xs)
  | _ => G b
theorem SRep.unview (h : SRep K cl σ H G L ρ) (h' : SRep K cl σ' H' G' L' ρ') (f : Frame H (viewG H G L) (fun _ => none) H' G' L') : SRep K cl σ H' (tupG H' G) L ρ ∧ Frame H G L H' (tupG H' G) L := by
  have keep : Le H H' := fun b x e => (f.keep b x e rfl).1
  have hle : Le G (tupG H' G) := fun b x hb => by
    have h1 := keep b x (h.le b x hb)
    unfold tupG
    rw [h1]
    cases x <;> first | rfl | exact hb
  have neL : ∀ b p, L b = some p → tupG H' G b = none := fun b p l => by
    obtain ⟨g, x, hx⟩ := h.rep.sep b p l
    have h1 := keep b x hx
    have nt : ∀ xs, x ≠ .tup xs := fun xs e => by
      rw [e] at hx
      rw [h.rep.imm b xs hx] at g
      cases g
    unfold tupG
    rw [h1]
    cases x <;> first | exact g | exact absurd rfl (nt _)
  refine ⟨⟨h.len, h.all, ⟨fun b x hb => ?_, fun b p l => ?_, fun b xs e => ?_, fun i v o e => ?_, h.rep.own⟩⟩, ⟨fun b x e l => ⟨keep b x e, l, fun g => ?_⟩, hle⟩⟩
  · unfold tupG at hb
    split at hb
    · rename_i xs e
      cases hb
      exact e
    · exact keep b x (h.le b x hb)
  · obtain ⟨_, x, hx⟩ := h.rep.sep b p l
    exact ⟨neL b p l, x, keep b x hx⟩
  · unfold tupG
    rw [e]
  · have := RepO.move (L' := L) (H' := H') (p := [i]) (p' := [i]) hle (fun a q l => ⟨l, fun x hx => keep a x hx⟩) o v [] (by simpa using h.rep.rep i v o e)
    simpa using this
  · have nt : ∀ xs, x ≠ .tup xs := fun xs z => by
      rw [z] at e
      rw [h.rep.imm b xs e] at g
      cases g
    unfold tupG
    rw [keep b x e]
    cases x <;> first | exact g | exact absurd rfl (nt _)
end

section
variable {X : Cx} {cl : Cl} {e a b c : Expr} {es : List Expr} {pos : Pos}
/-- read without taking: the answer is immutable -/
def mPeek (g : MD) : MD := fun ρ => match g (viewAll ρ) with
  | some (d, _) => (match d.imm with
    | true => some (d, ρ)
    | false => none)
  | none => none
theorem SD.peek {g : MD} (h : SD X cl e g) : SD X cl e (mPeek g) := PE.weak h fun σ H Q ⟨G, L, ρ, d, ρ', hs, hg, q⟩ => by
  unfold mPeek at hg
  split at hg
  · rename_i d' ρ1 e1
    split at hg
    · rename_i i
      cases hg
      refine ⟨_, _, _, _, _, hs.view, e1, fun v H' G' L' s r f => ?_⟩
      obtain ⟨s2, f2⟩ := hs.unview s f
      refine q v H' _ L s2 (RepV.imm (fun b xs z => ?_) d v i r) f2
      unfold tupG
      rw [s.le _ _ z]
    · cases hg
  · cases hg
def bPeek (g : MB) : MB := fun ρ => match g (viewAll ρ) with
  | some (k, _) => some (k, ρ)
  | none => none
theorem ST.peek {g : MB} (h : ST X cl e g) : ST X cl e (bPeek g) := PT.weak h fun σ H Q ⟨G, L, ρ, k, ρ', hs, hg, q⟩ => by
  unfold bPeek at hg
  split at hg
  · rename_i k' ρ1 e1
    cases hg
    refine ⟨_, _, _, _, _, hs.view, e1, fun H' G' L' s f => ?_⟩
    obtain ⟨s2, f2⟩ := hs.unview s f
    exact q H' _ L s2 f2
  · cases hg

/-! ### + * == on any data -/
def dAddG : D → D → Option D
  | .int i, .int j => some (.int (i + j))
  | .str x, .str y => (match decide (x.length + y.length ≤ sizeLine) with
    | true => some (.str (x ++ y))
    | false => none)
  | .tup xs, .tup ys => (match decide (xs.length + ys.length ≤ sizeLine) with
    | true => some (.tup (xs ++ ys))
    | false => none)
  | .lst xs, .lst ys => (match decide (xs.length + ys.length ≤ sizeLine) with
    | true => some (.lst (xs ++ ys))
    | false => none)
  | _, _ => none
theorem RepVs.length {K : PySem.W.Frag} {G : Hp} : ∀ {ds : List D} {vs : List V}, RepVs K cl G vs ds → vs.length = ds.length
  | [], _, r => by cases r; rfl
  | d :: ds, _, ⟨v, ws, e, _, r⟩ => by rw [e]; simp [RepVs.length r]
theorem RepVs.append {K : PySem.W.Frag} {G : Hp} : ∀ {ds es : List D} {vs ws : List V}, RepVs K cl G vs ds → RepVs K cl G ws es → RepVs K cl G (vs ++ ws) (ds ++ es)
  | [], _, _, _, r, s => by cases r; exact s
  | d :: ds, _, _, _, ⟨v, us, e, r0, r⟩, s => by rw [e]; exact ⟨v, _, rfl, r0, RepVs.append r s⟩
theorem RepVs.get {K : PySem.W.Frag} {G : Hp} : ∀ {ds : List D} {vs : List V} {i : Nat} {d : D}, RepVs K cl G vs ds → ds[i]? = some d → ∃ v, vs[i]? = some v ∧ RepV K cl G v d
  | [], _, _, _, _, h => by simp at h
  | d :: ds, _, 0, d', ⟨v, us, e, r0, r⟩, h => by
    simp at h
    subst h
    exact ⟨v, by rw [e]; rfl, r0⟩
  | d :: ds, _, i + 1, d', ⟨v, us, e, r0, r⟩, h => by
    obtain ⟨w, h1, h2⟩ := RepVs.get (i := i) r (by simpa using h)
    exact ⟨w, by rw [e]; simpa using h1, h2⟩
theorem RepVs.take {K : PySem.W.Frag} {G : Hp} : ∀ {ds : List D} {vs : List V} (n : Nat), RepVs K cl G vs ds → RepVs K cl G (vs.take n) (ds.take n)
  | _, _, 0, _ => rfl
  | [], _, n + 1, r => by cases r; rfl
  | d :: ds, _, n + 1, ⟨v, us, e, r0, r⟩ => by rw [e]; exact ⟨v, _, rfl, r0, RepVs.take n r⟩
theorem RepVs.drop {K : PySem.W.Frag} {G : Hp} : ∀ {ds : List D} {vs : List V} (n : Nat), RepVs K cl G vs ds → RepVs K cl G (vs.drop n) (ds.drop n)
  | _, _, 0, r => by simpa using r
  | [], _, n + 1, r => by cases r; rfl
  | d :: ds, _, n + 1, ⟨v, us, e, r0, r⟩ => by rw [e]; exact RepVs.drop n r
theorem RepVs.rep {K : PySem.W.Frag} {G : Hp} {ds : List D} {vs : List V} (r : RepVs K cl G vs ds) : ∀ k : Nat, RepVs K cl G (List.replicate k vs).flatten (List.replicate k ds).flatten
  | 0 => rfl
  | k + 1 => by
    rw [List.replicate_succ, List.replicate_succ, List.flatten_cons, List.flatten_cons]
    exact r.append (r.rep k)
theorem RepVs.rev {K : PySem.W.Frag} {G : Hp} : ∀ {ds : List D} {vs : List V}, RepVs K cl G vs ds → RepVs K cl G vs.reverse ds.reverse
  | [], _, r => by cases r; rfl
  | d :: ds, _, ⟨v, us, e, r0, r⟩ => by
    rw [e, List.reverse_cons, List.reverse_cons]
    exact (RepVs.rev r).append ⟨v, [], rfl, r0, rfl⟩
abbrev rAddG (K : PySem.W.Frag) : R2 := fun x y H Q => (fun x y H Q => ∃ i j, x = .int i ∧ y = .int j ∧ Q (.int (i + j)) H) x y H Q ∨ ((fun x y H Q => ∃ i j, x = .str i ∧ y = .str j ∧ i.length + j.length ≤ sizeLine ∧ Q (.str (i ++ j)) H) x y H Q ∨ ((rCatA K) x y H Q ∨ rCat x y H Q))
theorem ok_addG {K : PySem.W.Frag} : R2Ok K cl (rAddG K) dAddG := fun G H x y dx dy d Q hle him rx ry e q => by
  unfold dAddG at e
  split at e
  · cases e
    cases rx
    cases ry
    exact .inl ⟨_, _, rfl, rfl, q _ _ _ (Ext.refl hle) rfl⟩
  · split at e
    · rename_i z
      cases e
      cases rx
      cases ry
      exact .inr (.inl ⟨_, _, rfl, rfl, of_decide_eq_true z, q _ _ _ (Ext.refl hle) rfl⟩)
    · cases e
  · split at e
    · rename_i xs ys _ z
      cases e
      obtain ⟨a, vs, rfl, ha, ra⟩ := rx
      obtain ⟨b, ws, rfl, hb, rb⟩ := ry
      have z := of_decide_eq_true z
      refine .inr (.inr (.inl ⟨a, b, vs, ws, rfl, rfl, (hle.tup ha).seq, (hle.tup hb).seq, by rw [ra.length, rb.length]; exact z, fun h => ?_, fun h1 h2 => ?_, fun _ _ p hp => ?_⟩))
      · subst h
        have : xs = [] := List.eq_nil_of_length_eq_zero (by rw [← ra.length]; rfl)
        subst this
        exact q _ _ _ (Ext.refl hle) ⟨b, ws, rfl, hb, rb⟩
      · subst h2
        have : ys = [] := List.eq_nil_of_length_eq_zero (by rw [← rb.length]; rfl)
        subst this
        rw [List.append_nil] at q
        exact q _ _ _ (Ext.refl hle) ⟨a, vs, rfl, ha, ra⟩
      · have ex := Ext.new hle hp (.tup (vs ++ ws))
        exact q _ _ _ ex ⟨p, _, rfl, .inl upd_same, (ra.mono ex.le).append (rb.mono ex.le)⟩
    · cases e
  · split at e
    · rename_i xs ys _ z
      cases e
      obtain ⟨a, vs, rfl, ha, ra⟩ := rx
      obtain ⟨b, ws, rfl, hb, rb⟩ := ry
      have z := of_decide_eq_true z
      refine .inr (.inr (.inr ⟨a, b, vs, ws, rfl, rfl, hle _ _ ha, hle _ _ hb, by rw [ra.length, rb.length]; exact z, fun p hp => ?_⟩))
      have ex := Ext.new hle hp (.lst (vs ++ ws))
      exact q _ _ _ ex ⟨p, _, rfl, upd_same, (ra.mono ex.le).append (rb.mono ex.le)⟩
    · cases e
  · cases e
theorem op_addG : OpR X (binaryOp .Add) (rAddG X.K) := op_add.or (op_add_str.or (op_catA.or op_cat))
theorem sd_addG {ga gb : MD} (ha : SD X cl a ga) (hb : SD X cl b gb) : SD X cl (.BinOp a .Add b pos) (mOp2 dAddG ga gb) := sd_bin op_addG ok_addG ha hb
def dMulG : D → D → Option D
  | .int i, .int j => dMul (.int i) (.int j)
  | .tup xs, .int k => (match decide (k ≤ 1000 ∧ -1000 ≤ k ∧ xs.length ≤ 1000) with
    | true => some (.tup (List.replicate k.toNat xs).flatten)
    | false => none)
  | _, _ => none
theorem ok_mulG {K : PySem.W.Frag} : R2Ok K cl (fun x y H Q => (rI CMul fun i j => .int (i * j)) x y H Q ∨ (rRepA K) x y H Q) dMulG := fun G H x y dx dy d Q hle him rx ry e q => by
  unfold dMulG at e
  split at e
  · exact .inl (ok_int2c (fun i j h => by have h2 := of_decide_eq_true h; exact h2) G H x y _ _ d Q hle him rx ry e q)
  · rename_i xs k
    split at e
    · rename_i z
      cases e
      obtain ⟨a, vs, rfl, ha, ra⟩ := rx
      cases ry
      obtain ⟨z1, z2, z3⟩ := of_decide_eq_true z
      refine .inr ⟨a, k, vs, rfl, rfl, (hle.tup ha).seq, z1, z2, by rw [ra.length]; exact z3, fun h => ?_, fun h1 h2 p hp => ?_⟩
      · have : (List.replicate k.toNat xs).flatten = xs := by
          rcases h with h | h
          · subst h
            have : xs = [] := List.eq_nil_of_length_eq_zero (by rw [← ra.length]; rfl)
            subst this
            induction k.toNat with
            | zero => rfl
            | succ n ih => rw [List.replicate_succ, List.flatten_cons, ih]; rfl
          · subst h
            show (List.replicate 1 xs).flatten = xs
            simp
        rw [this] at q
        exact q _ _ _ (Ext.refl hle) ⟨a, vs, rfl, ha, ra⟩
      · have ex := Ext.new hle hp (.tup (List.replicate k.toNat vs).flatten)
        exact q _ _ _ ex ⟨p, _, rfl, .inl upd_same, (ra.mono ex.le).rep _⟩
    · cases e
  · cases e
theorem sd_mulG {ga gb : MD} (ha : SD X cl a ga) (hb : SD X cl b gb) : SD X cl (.BinOp a .Mult b pos) (mOp2 dMulG ga gb) := sd_bin (op_mul.or op_repA) ok_mulG ha hb

/-! equality -/
mutual
def D.py : D → Option PyData
  | .non => some .none
  | .bl b => some (.bool b)
  | .int i => some (.int i)
  | .str s => some (.str s)
  | .tup ds => (match D.pys ds with
    | some ps => some (.tuple ps)
    | none => none)
  | .lst ds => (match D.pys ds with
    | some ps => some (.list ps)
    | none => none)
  | _ => none
def D.pys : List D → Option (List PyData)
  | [] => some []
  | d :: ds => (match d.py, D.pys ds with
    | some p, some ps => some (p :: ps)
    | _, _ => none)
end
mutual
theorem RepV.dp {K : PySem.W.Frag} {G : Hp} : ∀ (d : D) (v : V) (p : PyData), d.py = some p → RepV K cl G v d → Dp K G v p
  | .non, _, _, e, r => by simp only [D.py] at e; cases e; cases r; exact .non
  | .bl _, _, _, e, r => by simp only [D.py] at e; cases e; cases r; exact .bl _
  | .int _, _, _, e, r => by simp only [D.py] at e; cases e; cases r; exact .int _
  | .str _, _, _, e, r => by simp only [D.py] at e; cases e; cases r; exact .str _
  | .tup ds, _, _, e, ⟨a, vs, e0, s, r⟩ => by
    simp only [D.py] at e
    split at e
    · rename_i ps e1
      cases e
      cases e0
      exact .tup s.seq (RepVs.dp ds vs ps e1 r)
    · cases e
  | .lst ds, _, _, e, ⟨a, vs, e0, s, r⟩ => by
    simp only [D.py] at e
    split at e
    · rename_i ps e1
      cases e
      cases e0
      exact .lst (SqL.of s) (RepVs.dp ds vs ps e1 r)
    · cases e
  | .rol _, _, _, e, _ => by simp [D.py] at e
  | .dct _ _, _, _, e, _ => by simp [D.py] at e
  | .obj _ _ _, _, _, e, _ => by simp [D.py] at e
theorem RepVs.dp {K : PySem.W.Frag} {G : Hp} : ∀ (ds : List D) (vs : List V) (ps : List PyData), D.pys ds = some ps → RepVs K cl G vs ds → DpAll K G vs ps
  | [], _, _, e, r => by simp only [D.pys] at e; cases e; cases r; exact .nil
  | d :: ds, _, _, e, ⟨v, ws, e0, r, rs⟩ => by
    simp only [D.pys] at e
    split at e
    · rename_i p ps e1 e2
      cases e
      rw [e0]
      exact .cons (RepV.dp d v p e1 r) (RepVs.dp ds ws ps e2 rs)
    · cases e
end
def dEq : D → D → Option Bool
  | .int i, .int j => some (decide (i = j))
  | .str x, .str y => some (decide (x = y))
  | .bl x, .bl y => some (decide (x = y))
  | x, y => (match x.py, y.py with
    | some p, some q => (match SeqAt.shaped p && SeqAt.shaped q with
      | true => some (PyData.eqv p q)
      | false => none)
    | _, _ => none)
def dEqD (x y : D) : Option D := match dEq x y with
  | some k => some (.bl k)
  | none => none
def dNeD (x y : D) : Option D := match dEq x y with
  | some k => some (.bl !k)
  | none => none
theorem dEq_ok {K : PySem.W.Frag} {G H : Hp} {x y : V} {dx dy : D} {k : Bool} (hle : Le G H) (rx : RepV K cl G x dx) (ry : RepV K cl G y dy) (e : dEq dx dy = some k) :
    (scal x y = true ∧ k = decide (x = y)) ∨ ∃ p q, Dp K H x p ∧ Dp K H y q ∧ SeqAt.shaped p = true ∧ SeqAt.shaped q = true ∧ k = PyData.eqv p q := by
  unfold dEq at e
  split at e
  · cases e; cases rx; cases ry; exact .inl ⟨rfl, by simp⟩
  · cases e; cases rx; cases ry; exact .inl ⟨rfl, by simp⟩
  · cases e; cases rx; cases ry; exact .inl ⟨rfl, by simp⟩
  · split at e
    · rename_i p q e1 e2
      split at e
      · rename_i z
        cases e
        obtain ⟨z1, z2⟩ := Bool.and_eq_true_iff.mp z
        exact .inr ⟨p, q, (rx.mono hle).dp _ _ _ e1, (ry.mono hle).dp _ _ _ e2, z1, z2, rfl⟩
      · cases e
    · cases e
theorem ok_eq {K : PySem.W.Frag} : R2Ok K cl (fun x y H Q => rEq x y H Q ∨ rEqD K x y H Q) dEqD := fun G H x y dx dy d Q hle him rx ry e q => by
  unfold dEqD at e
  split at e
  · rename_i k e1
    cases e
    have q := q (.bl k) H G (Ext.refl hle) rfl
    rcases dEq_ok hle rx ry e1 with ⟨z1, z2⟩ | ⟨p, p', z1, z2, z3, z4, z5⟩
    · exact .inl ⟨z1, by rw [← z2]; exact q⟩
    · exact .inr ⟨p, p', z1, z2, z3, z4, by rw [← z5]; exact q⟩
  · cases e
theorem ok_ne {K : PySem.W.Frag} : R2Ok K cl (fun x y H Q => rNe x y H Q ∨ rNeD K x y H Q) dNeD := fun G H x y dx dy d Q hle him rx ry e q => by
  unfold dNeD at e
  split at e
  · rename_i k e1
    cases e
    have q := q (.bl !k) H G (Ext.refl hle) rfl
    rcases dEq_ok hle rx ry e1 with ⟨z1, z2⟩ | ⟨p, p', z1, z2, z3, z4, z5⟩
    · exact .inl ⟨z1, by rw [← z2]; exact q⟩
    · exact .inr ⟨p, p', z1, z2, z3, z4, by rw [← z5]; exact q⟩
  · cases e
theorem sd_eq {ga gb : MD} (hu : X.A.units + 64 < cLine) (ha : SD X cl a ga) (hb : SD X cl b gb) : SD X cl (.Compare a [.Eq] [b] pos) (mOp2 dEqD ga gb) := sd_cmp (op_eq.or (op_eqD hu)) ok_eq ha hb (nomark _)
theorem sd_ne {ga gb : MD} (hu : X.A.units + 64 < cLine) (ha : SD X cl a ga) (hb : SD X cl b gb) : SD X cl (.Compare a [.NotEq] [b] pos) (mOp2 dNeD ga gb) := sd_cmp (op_ne.or (op_neD hu)) ok_ne ha hb (nomark _)
/-! is None, is True -/
def dIs : D → D → Option D
  | .bl x, .bl y => some (.bl (decide (x = y)))
  | .non, .non => some (.bl true)
  | .bl _, .non => some (.bl false)
  | .int _, .non => some (.bl false)
  | .str _, .non => some (.bl false)
  | .tup _, .non => some (.bl false)
  | .lst _, .non => some (.bl false)
  | .dct _ _, .non => some (.bl false)
  | .obj _ _ _, .non => some (.bl false)
  | _, _ => none
def dIsNot (x y : D) : Option D := match dIs x y with
  | some (.bl k) => some (.bl !k)
  | _ => none
theorem dIs_ok {K : PySem.W.Frag} {G : Hp} {x y : V} {dx dy d : D} (rx : RepV K cl G x dx) (ry : RepV K cl G y dy) (e : dIs dx dy = some d) :
    ∃ k, d = .bl k ∧ ((y = .non ∧ k = decide (x = .non)) ∨ ∃ p q, x = .bl p ∧ y = .bl q ∧ k = decide (p = q)) := by
  unfold dIs at e
  split at e
  · cases e; cases rx; cases ry; exact ⟨_, rfl, .inr ⟨_, _, rfl, rfl, rfl⟩⟩
  · cases e; cases rx; cases ry; exact ⟨_, rfl, .inl ⟨rfl, rfl⟩⟩
  · cases e; cases rx; cases ry; exact ⟨_, rfl, .inl ⟨rfl, rfl⟩⟩
  · cases e; cases rx; cases ry; exact ⟨_, rfl, .inl ⟨rfl, rfl⟩⟩
  · cases e; cases rx; cases ry; exact ⟨_, rfl, .inl ⟨rfl, rfl⟩⟩
  · cases e; obtain ⟨_, _, rfl, _⟩ := rx; cases ry; exact ⟨_, rfl, .inl ⟨rfl, rfl⟩⟩
  · cases e; obtain ⟨_, _, rfl, _⟩ := rx; cases ry; exact ⟨_, rfl, .inl ⟨rfl, rfl⟩⟩
  · cases e; obtain ⟨_, _, rfl, _⟩ := rx; cases ry; exact ⟨_, rfl, .inl ⟨rfl, rfl⟩⟩
  · cases e; obtain ⟨_, _, _, rfl, _⟩ := rx; cases ry; exact ⟨_, rfl, .inl ⟨rfl, rfl⟩⟩
  · cases e
theorem sd_is {ga gb : MD} (ha : SD X cl a ga) (hb : SD X cl b gb) : SD X cl (.Compare a [.Is] [b] pos) (mOp2 dIs ga gb) := sd_cmp (op_isN.or op_isBl) (fun G H x y dx dy d Q hle him rx ry e q => by
  obtain ⟨k, rfl, z⟩ := dIs_ok rx ry e
  have q := q (.bl k) H G (Ext.refl hle) rfl
  rcases z with ⟨z1, z2⟩ | ⟨p, p', z1, z2, z3⟩
  · exact .inl ⟨z1, by rw [← z2]; exact q⟩
  · exact .inr ⟨p, p', z1, z2, by rw [← z3]; exact q⟩) ha hb (nomark _)
theorem sd_isNot {ga gb : MD} (ha : SD X cl a ga) (hb : SD X cl b gb) : SD X cl (.Compare a [.IsNot] [b] pos) (mOp2 dIsNot ga gb) := sd_cmp (op_notN.or op_notBl) (fun G H x y dx dy d Q hle him rx ry e q => by
  unfold dIsNot at e
  split at e
  · rename_i k e1
    cases e
    obtain ⟨k', ek, z⟩ := dIs_ok rx ry e1
    cases ek
    have q := q (.bl !k) H G (Ext.refl hle) rfl
    rcases z with ⟨z1, z2⟩ | ⟨p, p', z1, z2, z3⟩
    · exact .inl ⟨z1, by rw [← z2]; exact q⟩
    · exact .inr ⟨p, p', z1, z2, by rw [← z3]; exact q⟩
  · cases e) ha hb (nomark _)
end
end PI
set_option Elab.async false
set_option linter.all false
set_option maxRecDepth 100000
set_option maxHeartbeats 1000000
set_option autoImplicit false
/-! PI7: displays, subscripts, slices, built-ins, tests. -/
namespace PI
open PySem PySem.Spec L2

abbrev MDs := Rho → Option (List D × Rho)
section
variable (X : Cx) (cl : Cl)
def tDs (f : MDs) : TA := fun σ H Q => ∃ G L ρ ds ρ', SRep X.K cl σ H G L ρ ∧ f ρ = some (ds, ρ') ∧ ∀ vs H' G' L', SRep X.K cl σ H' G' L' ρ' → RepVs X.K cl G' vs ds → Frame H G L H' G' L' → Q vs H'
def SDs (es : List Expr) (f : MDs) : Prop := PA X es (tDs X cl f)
end
section
variable {X : Cx} {cl : Cl} {e a b c o : Expr} {es : List Expr} {pos : Pos}
def dsNil : MDs := fun ρ => some ([], ρ)
theorem sds_nil : SDs X cl [] dsNil := PA.weak pa_nil fun σ H Q ⟨G, L, ρ, ds, ρ', hs, hg, q⟩ => by
  cases hg
  exact q [] H G L hs rfl Frame.refl
def dsCons (g : MD) (f : MDs) : MDs := fun ρ => match g ρ with
  | some (d, ρ1) => (match f ρ1 with
    | some (ds, ρ2) => some (d :: ds, ρ2)
    | none => none)
  | none => none
theorem sds_cons {g : MD} {f : MDs} (he : SD X cl e g) (hr : SDs X cl es f) (hs : starEach (e :: es) X.env = (false, eval e X.env) :: starEach es X.env := by rfl) : SDs X cl (e :: es) (dsCons g f) :=
  PA.weak (pa_cons he hr hs) fun σ H Q ⟨G, L, ρ, ds, ρ', hs, hg, q⟩ => by
    unfold dsCons at hg
    split at hg
    · rename_i d ρ1 e1
      split at hg
      · rename_i ds2 ρ2 e2
        cases hg
        refine ⟨G, L, ρ, d, ρ1, hs, e1, fun x H1 G1 L1 s1 r1 f1 => ⟨G1, L1, ρ1, ds2, _, s1, e2, fun vs H2 G2 L2 s2 r2 f2 => ?_⟩⟩
        exact q (x :: vs) H2 G2 L2 s2 ⟨x, vs, rfl, r1.mono f2.le, r2⟩ (f1.trans f2)
      · cases hg
    · cases hg
def mTup (f : MDs) : MD := fun ρ => match f ρ with
  | some (ds, ρ1) => (match decide (ds.length ≤ sizeLine) with
    | true => some (.tup ds, ρ1)
    | false => none)
  | none => none
theorem sd_tup {f : MDs} {k : Nat} (h : SDs X cl es f) : SD X cl (.Tuple es k pos) (mTup f) := PE.weak (pe_tup h) fun σ H Q ⟨G, L, ρ, d, ρ', hs, hg, q⟩ => by
  unfold mTup at hg
  split at hg
  · rename_i ds ρ1 e1
    split at hg
    · rename_i z
      cases hg
      refine ⟨G, L, ρ, ds, _, hs, e1, fun vs H1 G1 L1 s1 r1 f1 => ⟨by rw [r1.length]; exact of_decide_eq_true z, fun p hp => ?_⟩⟩
      have ex := Ext.new s1.le hp (.tup vs)
      obtain ⟨s2, f2⟩ := s1.ext ex
      exact q _ _ _ L1 s2 ⟨p, vs, rfl, .inl upd_same, r1.mono ex.le⟩ (f1.trans f2)
    · cases hg
  · cases hg

/-! new owned roots -/
def updL (L : Lab) (p : Addr) (q : Path) : Lab := fun b => if b = p then some q else L b
theorem SRep.pushNew {K : PySem.W.Frag} {G H : Hp} {L : Lab} {σ : St} {ρ : Rho} (h : SRep K cl σ H G L ρ) {p : Addr} (hp : H p = none) {ho : HO} (nt : ∀ xs, ho ≠ .tup xs) {t : O}
    (r : RepO K cl G (upd H p ho) (updL L p [ρ.length]) [ρ.length] (.ref p) t) : SRep K cl (σ ++ [some (.ref p)]) (upd H p ho) G (updL L p [ρ.length]) (ρ ++ [some t]) ∧ Frame H G L (upd H p ho) G (updL L p [ρ.length]) := by
  have ne : ∀ b x, H b = some x → b ≠ p := fun b x e z => by rw [z, hp] at e; cases e
  have gp : G p = none := by
    cases q : G p with
    | none => rfl
    | some x => have := h.le p x q; rw [hp] at this; cases this
  have lp : L p = none := by
    cases q : L p with
    | none => rfl
    | some x => obtain ⟨_, y, hy⟩ := h.rep.sep p x q; rw [hp] at hy; cases hy
  refine ⟨⟨by simp [h.len], fun i o e => ?_, ⟨fun b x hb => ?_, fun b q l => ?_, fun b xs e => ?_, fun i v o e => ?_, fun b q l => ?_⟩⟩, ⟨fun b x e l => ?_, Le.refl⟩⟩
  · rw [get_app] at e ⊢
    rw [h.len]
    split at e
    · rename_i z
      rw [if_pos z]
      exact h.all i o e
    · rename_i z
      rw [if_neg z]
      split at e
      · rename_i z2
        rw [if_pos z2]
        exact ⟨_, rfl⟩
      · cases e
  · rw [upd_ne (ne b x (h.le b x hb))]
    exact h.le b x hb
  · unfold updL at l
    split at l
    · rename_i z
      subst z
      exact ⟨gp, _, upd_same⟩
    · rename_i z
      obtain ⟨g, x, hx⟩ := h.rep.sep b q l
      exact ⟨g, x, by rw [upd_ne z]; exact hx⟩
  · by_cases z : b = p
    · subst z
      rw [upd_same] at e
      cases e
      exact absurd rfl (nt xs)
    · rw [upd_ne z] at e
      exact h.rep.imm b xs e
  · rw [show ρ ++ [some t] = ρ ++ [some t] from rfl] at e
    rw [rootsOf_app h.len] at e
    split at e
    · have := RepO.move (L := L) (H := H) (L' := updL L p [ρ.length]) (H' := upd H p ho) (p := [i]) (p' := [i]) Le.refl (fun a q l => ⟨by
        have : a ≠ p := fun z => by rw [z, lp] at l; cases l
        unfold updL
        rw [if_neg this]
        exact l, fun x hx => by rw [upd_ne (ne a x hx)]; exact hx⟩) o v [] (by simpa using h.rep.rep i v o e)
      simpa using this
    · rename_i z
      have : i = ρ.length := by
        have e2 := (rootsOf_some.mp e).1
        have := (List.getElem?_eq_some_iff.mp e2).1
        simp at this
        omega
      subst this
      simp [rootsOf] at e
      obtain ⟨e1, e2⟩ := e
      subst e1 e2
      exact r
  · unfold updL at l
    split at l
    · cases l
      refine ⟨_, _, rfl, ?_⟩
      rw [rootsOf_app h.len, if_neg (by omega)]
      simp [rootsOf]
    · obtain ⟨i, r', e1, e2⟩ := h.rep.own b q l
      refine ⟨i, r', e1, ?_⟩
      obtain ⟨⟨v1, o⟩, e3⟩ := Option.isSome_iff_exists.mp e2
      rw [rootsOf_app h.len, if_pos (List.getElem?_eq_some_iff.mp (rootsOf_some.mp e3).2).1, e3]
      rfl
  · rw [upd_ne (ne b x e)]
    refine ⟨e, ?_, id⟩
    unfold updL
    rw [if_neg (ne b x e)]
    exact l
theorem repOs_fz {K : PySem.W.Frag} {G H : Hp} {L : Lab} : ∀ (ds : List D) (vs : List V) (p : Path) (i : Nat), RepVs K cl G vs ds → RepOs K cl G H L p i vs (ds.map .fz)
  | [], _, _, _, r => r
  | d :: ds, _, p, i, ⟨v, ws, e, r, rs⟩ => ⟨v, ws, e, r, repOs_fz ds ws p (i + 1) rs⟩
theorem SRep.pushLst {K : PySem.W.Frag} {G H : Hp} {L : Lab} {σ : St} {ρ : Rho} (h : SRep K cl σ H G L ρ) {p : Addr} (hp : H p = none) {vs : List V} {ds : List D} (r : RepVs K cl G vs ds) :
    SRep K cl (σ ++ [some (.ref p)]) (upd H p (.lst vs)) G (updL L p [ρ.length]) (ρ ++ [some (.lst (ds.map .fz))]) ∧ Frame H G L (upd H p (.lst vs)) G (updL L p [ρ.length]) :=
  h.pushNew hp (ho := .lst vs) (fun xs e => by cases e) ⟨p, vs, rfl, by unfold updL; rw [if_pos rfl], upd_same, repOs_fz ds vs _ 0 r⟩
/-- a new list of frozen things -/
def oLst (f : MDs) : MO := fun ρ => match f ρ with
  | some (ds, ρ1) => (match decide (ds.length ≤ sizeLine) with
    | true => some (.lst (ds.map .fz), ρ1)
    | false => none)
  | none => none
theorem so_lst {f : MDs} (h : SDs X cl es f) : SO X cl (.List es pos) (oLst f) := PE.weak (pe_lst h) fun σ H Q ⟨G, L, ρ, d, ρ', hs, hg, q⟩ => by
  unfold oLst at hg
  split at hg
  · rename_i ds ρ1 e1
    split at hg
    · rename_i z
      cases hg
      refine ⟨G, L, ρ, ds, _, hs, e1, fun vs H1 G1 L1 s1 r1 f1 => ⟨by rw [r1.length]; exact of_decide_eq_true z, fun p hp => ?_⟩⟩
      obtain ⟨s2, f2⟩ := s1.pushLst hp r1
      exact q _ _ _ _ s2 (f1.trans f2)
    · cases hg
  · cases hg

/-! ### subscripts -/
def lookD : List Key → List D → Key → Option D
  | k :: ks, d :: ds, j => if k = j then some d else lookD ks ds j
  | _, _, _ => none
theorem lookD_ok {K : PySem.W.Frag} {G : Hp} : ∀ {kvs : List (Key × V)} {ds : List D} {j : Key} {d : D}, RepVs K cl G (kvs.map (·.2)) ds → lookD (kvs.map (·.1)) ds j = some d → ∃ v, valV kvs j = some v ∧ RepV K cl G v d
  | [], _, _, _, _, h => by simp [lookD] at h
  | (k, v) :: kvs, [], _, _, r, _ => by cases r
  | (k, v) :: kvs, d :: ds, j, d', r, h => by
    obtain ⟨v', ws, e, r0, rs⟩ := r
    simp only [List.map_cons, List.cons.injEq] at e
    obtain ⟨rfl, rfl⟩ := e
    simp only [List.map_cons, lookD] at h
    split at h
    · rename_i z
      cases h
      exact ⟨v, valV_pos z, r0⟩
    · rename_i z
      obtain ⟨w, h1, h2⟩ := lookD_ok rs h
      exact ⟨w, by rw [valV_neg z]; exact h1, h2⟩
theorem lookD_none {K : PySem.W.Frag} {G : Hp} : ∀ {kvs : List (Key × V)} {ds : List D} {j : Key}, RepVs K cl G (kvs.map (·.2)) ds → lookD (kvs.map (·.1)) ds j = none → valV kvs j = none
  | [], _, _, _, _ => rfl
  | (k, v) :: kvs, [], _, r, _ => by cases r
  | (k, v) :: kvs, d :: ds, j, r, h => by
    obtain ⟨v', ws, e, r0, rs⟩ := r
    simp only [List.map_cons, List.cons.injEq] at e
    obtain ⟨rfl, rfl⟩ := e
    simp only [List.map_cons, lookD] at h
    split at h
    · cases h
    · rename_i z
      rw [valV_neg z]
      exact lookD_none rs h
def keyD : D → Option Key
  | .int i => some (.inl i)
  | .str s => some (.inr s)
  | _ => none
theorem keyD_ok {K : PySem.W.Frag} {G : Hp} {y : V} {d : D} {k : Key} (e : keyD d = some k) (r : RepV K cl G y d) : y = kV k := by
  unfold keyD at e
  split at e
  · cases e; cases r; rfl
  · cases e; cases r; rfl
  · cases e
def dIx : D → D → Option D
  | .tup ds, .int i => atI ds i
  | .lst ds, .int i => atI ds i
  | .rol ds, .int i => atI ds i
  | .str z, .int i => (match decide (z.length ≤ sizeLine), atI z.cps.toList i with
    | true, some c => some (.str ⟨#[c]⟩)
    | _, _ => none)
  | .dct ks ds, y => (match keyD y with
    | some k => lookD ks ds k
    | none => none)
  | _, _ => none
theorem RepVs.at_ {K : PySem.W.Frag} {G : Hp} {ds : List D} {vs : List V} {i : Int} {d : D} (r : RepVs K cl G vs ds) (h : atI ds i = some d) : ∃ v, atI vs i = some v ∧ RepV K cl G v d := by
  unfold atI at h ⊢
  rw [r.length]
  cases e : ixN ds.length i with
  | none => rw [e] at h; cases h
  | some j =>
    rw [e] at h
    exact r.get h
theorem sd_ixG {ga gb : MD} (hu : X.A.units + 1 < cLine) (ha : SD X cl a ga) (hb : SD X cl b gb) (hs : PlainIx b := by exact fun _ _ => rfl) (hs2 : NoSl b := by exact fun _ _ => rfl) : SD X cl (.Subscript a b pos) (mOp2 dIx ga gb) := by
  have p1 : SD X cl (.Subscript a b pos) (mOp2 (fun x y => match x with | .dct _ _ => none | x => dIx x y) ga gb) := sd_ix ix_seq (fun G H x y dx dy d Q hle him rx ry e q => by
    cases dx <;> first | (simp only [dIx] at e; done) | skip
    all_goals simp only at e
    case str z =>
      cases dy <;> simp only [dIx] at e <;> first | cases e | skip
      rename_i i
      split at e
      · rename_i c e1 e2
        cases e
        cases rx
        cases ry
        exact .inr (.inr ⟨z, i, c, rfl, rfl, of_decide_eq_true e1, e2, q _ _ _ (Ext.refl hle) rfl⟩)
      · cases e
    case tup ds =>
      cases dy <;> simp only [dIx] at e <;> first | cases e | skip
      rename_i i
      obtain ⟨p, vs, rfl, hp, rv⟩ := rx
      cases ry
      obtain ⟨v, h1, h2⟩ := rv.at_ e
      exact .inr (.inl ⟨p, vs, i, v, rfl, rfl, (hle.tup hp).seq, h1, q _ _ _ (Ext.refl hle) h2⟩)
    case lst ds =>
      cases dy <;> simp only [dIx] at e <;> first | cases e | skip
      rename_i i
      obtain ⟨p, vs, rfl, hp, rv⟩ := rx
      cases ry
      obtain ⟨v, h1, h2⟩ := rv.at_ e
      exact .inl ⟨p, vs, i, v, rfl, rfl, SqL.of (hle _ _ hp), h1, q _ _ _ (Ext.refl hle) h2⟩
    case rol ds =>
      cases dy <;> simp only [dIx] at e <;> first | cases e | skip
      rename_i i
      obtain ⟨p, vs, rfl, hp, rv⟩ := rx
      cases ry
      obtain ⟨v, h1, h2⟩ := rv.at_ e
      exact .inl ⟨p, vs, i, v, rfl, rfl, hle.seq hp, h1, q _ _ _ (Ext.refl hle) h2⟩
    all_goals first | (cases e; done) | (simp [dIx] at e; done)) ha hb hs
  have p2 := pe_dget (pos := pos) hu ha hb hs2
  refine ⟨fun pins s σ H Q I h => ?_⟩
  obtain ⟨G, L, ρ, d, ρ', hr, hg, q⟩ := h
  obtain ⟨x, ρ1, y, e1, e2, e3⟩ := mOp2_some hg
  by_cases hd : ∃ ks ds, x = .dct ks ds
  · obtain ⟨ks, ds, rfl⟩ := hd
    refine p2.run pins s σ H Q I ⟨G, L, ρ, _, ρ1, hr, e1, fun v H1 G1 L1 s1 r1 f1 => ⟨G1, L1, ρ1, y, ρ', s1, e2, fun u H2 G2 L2 s2 r2 f2 => ?_⟩⟩
    simp only [dIx] at e3
    split at e3
    · rename_i k ek
      obtain ⟨a', kvs, rfl, hd, hk, rv⟩ := r1.mono f2.le
      subst hk
      obtain ⟨v, h1, h2⟩ := lookD_ok rv e3
      exact ⟨a', v, rfl, .inl ⟨kvs, k, s2.le.rd hd, keyD_ok ek r2, h1.symm⟩, q v H2 G2 L2 s2 h2 (f1.trans f2)⟩
    · cases e3
  · refine p1.run pins s σ H Q I ⟨G, L, ρ, d, ρ', hr, ?_, q⟩
    unfold mOp2
    rw [e1]
    simp only [e2]
    cases x <;> first | exact absurd ⟨_, _, rfl⟩ hd | (simp only [e3])

/-! ### slices -/
def SPO (X : Cx) (cl : Cl) (e : Option Expr) (g : Rho → Option (Option Int × Rho)) : Prop := PO X e fun σ H Q => ∃ G L ρ d ρ', SRep X.K cl σ H G L ρ ∧ g ρ = some (d, ρ') ∧ ∀ H' G' L', SRep X.K cl σ H' G' L' ρ' → Frame H G L H' G' L' → Q d H'
def pNone : Rho → Option (Option Int × Rho) := fun ρ => some (none, ρ)
def pSome (g : MD) : Rho → Option (Option Int × Rho) := fun ρ => match g ρ with
  | some (.int i, ρ1) => some (some i, ρ1)
  | _ => none
theorem PO.weak {e : Option Expr} {t t' : TO} (h : PO X e t) (w : ∀ σ H Q, t' σ H Q → t σ H Q) : PO X e t' := ⟨fun pins s σ H Q I q => h.run pins s σ H Q I (w σ H _ q)⟩
theorem spo_none : SPO X cl none pNone := PO.weak po_none fun σ H Q ⟨G, L, ρ, d, ρ', hs, hg, q⟩ => by
  cases hg
  exact q H G L hs Frame.refl
theorem spo_some {g : MD} (h : SD X cl e g) : SPO X cl (some e) (pSome g) := PO.weak (po_some h) fun σ H Q ⟨G, L, ρ, d, ρ', hs, hg, q⟩ => by
  unfold pSome at hg
  split at hg
  · rename_i i ρ1 e1
    cases hg
    exact ⟨G, L, ρ, _, _, hs, e1, fun v H' G' L' s r f => ⟨i, r, q H' G' L' s f⟩⟩
  · cases hg
def cutD {α : Type} (xs : List α) (lo hi : Option Int) : List α := (xs.drop (HT.sIx xs.length 0 lo)).take (HT.sIx xs.length xs.length hi - HT.sIx xs.length 0 lo)
def dSlice : D → Option Int → Option Int → Option D
  | .tup ds, lo, hi => some (.tup (cutD ds lo hi))
  | .lst ds, lo, hi => some (.lst (cutD ds lo hi))
  | .rol ds, lo, hi => some (.lst (cutD ds lo hi))
  | .str z, lo, hi => (match decide (z.length ≤ sizeLine) with
    | true => some (.str (cutS z lo hi))
    | false => none)
  | _, _, _ => none
theorem RepVs.cut {K : PySem.W.Frag} {G : Hp} {ds : List D} {vs : List V} (r : RepVs K cl G vs ds) (lo hi : Option Int) : RepVs K cl G (cutV vs lo hi) (cutD ds lo hi) := by
  unfold cutV cutD
  rw [r.length]
  exact (r.drop _).take _
def mSlice (g : MD) (l h : Rho → Option (Option Int × Rho)) : MD := fun ρ => match g ρ with
  | some (x, ρ1) => (match l ρ1 with
    | some (lo, ρ2) => (match h ρ2 with
      | some (hi, ρ3) => (match dSlice x lo hi with
        | some d => some (d, ρ3)
        | none => none)
      | none => none)
    | none => none)
  | none => none
theorem cut_whole {α : Type} {xs : List α} {lo hi : Option Int} (h : HT.sIx xs.length 0 lo = 0 ∧ HT.sIx xs.length xs.length hi = xs.length) : cutD xs lo hi = xs := by
  unfold cutD
  rw [h.1, h.2]
  simp
theorem sd_slice {g : MD} {l h : Rho → Option (Option Int × Rho)} {lo hi : Option Expr} {p2 : Pos} (he : SD X cl e g) (hl : SPO X cl lo l) (hh : SPO X cl hi h) : SD X cl (.Subscript e (.Slice lo hi none p2) pos) (mSlice g l h) :=
  PE.weak (pe_slice (sl_tupA.or (sl_list.or sl_str)) he hl hh) fun σ H Q ⟨G, L, ρ, d, ρ', hs, hg, q⟩ => by
    unfold mSlice at hg
    split at hg
    · rename_i x ρ1 e1
      split at hg
      · rename_i lo' ρ2 e2
        split at hg
        · rename_i hi' ρ3 e3
          split at hg
          · rename_i d' e4
            cases hg
            refine ⟨G, L, ρ, x, ρ1, hs, e1, fun v H1 G1 L1 s1 r1 f1 => ⟨G1, L1, ρ1, lo', ρ2, s1, e2, fun H2 G2 L2 s2 f2 => ⟨G2, L2, ρ2, hi', _, s2, e3, fun H3 G3 L3 s3 f3 => ?_⟩⟩⟩
            have r3 := (r1.mono f2.le).mono f3.le
            have f := (f1.trans f2).trans f3
            have hle := s3.le
            unfold dSlice at e4
            split at e4
            · rename_i ds
              cases e4
              obtain ⟨p, vs, rfl, hp, rv⟩ := r3
              refine .inl ⟨p, vs, rfl, (hle.tup hp).seq, fun z => ?_, fun z w hw => ?_⟩
              · have e5 : cutD ds lo' hi' = ds := cut_whole (by rw [← rv.length]; exact z)
                rw [e5] at q
                exact q _ _ _ _ s3 ⟨p, vs, rfl, hp, rv⟩ f
              · have ex := Ext.new hle hw (.tup (cutV vs lo' hi'))
                obtain ⟨s4, f4⟩ := s3.ext ex
                exact q _ _ _ _ s4 ⟨w, _, rfl, .inl upd_same, (rv.mono ex.le).cut _ _⟩ (f.trans f4)
            · rename_i ds
              cases e4
              obtain ⟨p, vs, rfl, hp, rv⟩ := r3
              refine .inr (.inl ⟨p, vs, rfl, SqL.of (hle _ _ hp), fun w hw => ?_⟩)
              have ex := Ext.new hle hw (.lst (cutV vs lo' hi'))
              obtain ⟨s4, f4⟩ := s3.ext ex
              exact q _ _ _ _ s4 ⟨w, _, rfl, upd_same, (rv.mono ex.le).cut _ _⟩ (f.trans f4)
            · rename_i ds
              cases e4
              obtain ⟨p, vs, rfl, hp, rv⟩ := r3
              refine .inr (.inl ⟨p, vs, rfl, hle.seq hp, fun w hw => ?_⟩)
              have ex := Ext.new hle hw (.lst (cutV vs lo' hi'))
              obtain ⟨s4, f4⟩ := s3.ext ex
              exact q _ _ _ _ s4 ⟨w, _, rfl, upd_same, (rv.mono ex.le).cut _ _⟩ (f.trans f4)
            · split at e4
              · rename_i z
                cases e4
                cases r3
                exact .inr (.inr ⟨_, rfl, of_decide_eq_true z, q _ _ _ _ s3 rfl f⟩)
              · cases e4
            · cases e4
          · cases hg
        · cases hg
      · cases hg
    · cases hg
/-- xs[::-1] -/
def dRev : D → Option D
  | .lst ds => some (.lst ds.reverse)
  | .rol ds => some (.lst ds.reverse)
  | _ => none
theorem sd_rev {g : MD} {k : Nat} {p1 p2 p3 : Pos} (he : SD X cl e g) : SD X cl (.Subscript e (.Slice none none (some (.UnaryOp .USub (.Constant (.int 1) k p1) p2)) p3) pos) (mOp1 dRev g) :=
  PE.weak (pe_revL he) fun σ H Q h => one (r := fun x H1 Q => ∃ a xs, x = .ref a ∧ SqL X.K H1 a xs ∧ ∀ p, H1 p = none → Q (.ref p) (upd H1 p (.lst xs.reverse))) (fun G H x dx d Q hle him rx e q => by
    unfold dRev at e
    split at e
    · cases e
      obtain ⟨p, vs, rfl, hp, rv⟩ := rx
      refine ⟨p, vs, rfl, SqL.of (hle _ _ hp), fun w hw => ?_⟩
      have ex := Ext.new hle hw (.lst vs.reverse)
      exact q _ _ _ ex ⟨w, _, rfl, upd_same, (rv.mono ex.le).rev⟩
    · cases e
      obtain ⟨p, vs, rfl, hp, rv⟩ := rx
      refine ⟨p, vs, rfl, hle.seq hp, fun w hw => ?_⟩
      have ex := Ext.new hle hw (.lst vs.reverse)
      exact q _ _ _ ex ⟨w, _, rfl, upd_same, (rv.mono ex.le).rev⟩
    · cases e) h

/-! ### built-ins -/
def RnOk (K : PySem.W.Frag) (cl : Cl) (r : List V → Hp → VK → Prop) (f : List D → Option D) : Prop := ∀ (G H : Hp) (xs : List V) (ds : List D) (d : D) (Q : VK), Le G H → (∀ b xs, H b = some (.tup xs) → G b = some (.tup xs)) → RepVs K cl G xs ds → f ds = some d →
  (∀ v H' G', Ext H G H' G' → RepV K cl G' v d → Q v H') → r xs H Q
def mFn (f : List D → Option D) (g : MDs) : MD := fun ρ => match g ρ with
  | some (ds, ρ1) => (match f ds with
    | some d => some (d, ρ1)
    | none => none)
  | none => none
theorem fnD {g : MDs} {r : List V → Hp → VK → Prop} {f : List D → Option D} (hr : RnOk X.K cl r f) {σ : St} {H : Hp} {Q : VK} (h : tD X cl (mFn f g) σ H Q) : tDs X cl g σ H fun xs H1 => r xs H1 Q := by
  obtain ⟨G, L, ρ, d, ρ', hs, hg, q⟩ := h
  unfold mFn at hg
  split at hg
  · rename_i ds ρ1 e1
    split at hg
    · rename_i d' e2
      cases hg
      refine ⟨G, L, ρ, ds, _, hs, e1, fun vs H1 G1 L1 s1 r1 f1 => hr G1 H1 vs ds _ Q s1.le s1.rep.imm r1 e2 fun z H3 G3 ex rz => ?_⟩
      obtain ⟨s3, f3⟩ := s1.ext ex
      exact q z H3 G3 L1 s3 rz (f1.trans f3)
    · cases hg
  · cases hg
theorem sd_callB {id : String} {x : Str} {p : Pos} {r : List V → Hp → VK → Prop} {f : List D → Option D} {g : MDs} (hc : CallR X (.builtin id) r) (hr : RnOk X.K cl r f) (hm : X.mg x = none) (hv : bootBuiltins x = some (.builtin id)) (ha : SDs X cl (e :: es) g) (hg : Gl X x := by rfl)
    (hn : x ≠ "__name__" := by decide) (hdb : (x == ("__debug__" : Str)) = false := by decide) (he : starEach (e :: es) X.env = (false, eval e X.env) :: starEach es X.env := by rfl) (hpl : (backTo pos (starEach es X.env)).any (·.1) = false := by rfl) :
    SD X cl (.Call (.Name x p) (e :: es) [] pos) (mFn f g) := PE.weak (pe_callB hc hg hm hv ha hn hdb he hpl) fun _ _ _ h => fnD hr h
theorem sd_callTy {T : String} {x : Str} {p : Pos} {r : List V → Hp → VK → Prop} {f : List D → Option D} {g : MDs} (hc : CallR X (.type T) r) (hr : RnOk X.K cl r f) (hm : X.mg x = none) (hv : bootBuiltins x = some (.type T)) (ha : SDs X cl (e :: es) g) (hg : Gl X x := by rfl)
    (hn : x ≠ "__name__" := by decide) (hdb : (x == ("__debug__" : Str)) = false := by decide) (he : starEach (e :: es) X.env = (false, eval e X.env) :: starEach es X.env := by rfl) (hpl : (backTo pos (starEach es X.env)).any (·.1) = false := by rfl) :
    SD X cl (.Call (.Name x p) (e :: es) [] pos) (mFn f g) := PE.weak (pe_callTy hc hg hm hv ha hn hdb he hpl) fun _ _ _ h => fnD hr h
def fLen : List D → Option D
  | [.tup ds] => some (.int ds.length)
  | [.lst ds] => some (.int ds.length)
  | [.rol ds] => some (.int ds.length)
  | [.str z] => (match decide (z.length ≤ sizeLine) with
    | true => some (.int z.length)
    | false => none)
  | _ => none
theorem one_val {K : PySem.W.Frag} {G : Hp} {xs : List V} {d : D} (r : RepVs K cl G xs [d]) : ∃ v, xs = [v] ∧ RepV K cl G v d := by
  obtain ⟨v, ws, e, r, rs⟩ := r
  cases rs
  exact ⟨v, e, r⟩
theorem ok_len {K : PySem.W.Frag} : RnOk K cl (fun xs H Q => ∃ x n, xs = [x] ∧ LenV K x H n ∧ Q (.int n) H) fLen := fun G H xs ds d Q hle him r e q => by
  unfold fLen at e
  split at e
  · cases e
    obtain ⟨v, rfl, p, vs, rfl, hp, rv⟩ := one_val r
    exact ⟨_, _, rfl, .inr ⟨vs, (hle.tup hp).seq, rfl⟩, by rw [rv.length]; exact q _ _ _ (Ext.refl hle) rfl⟩
  · cases e
    obtain ⟨v, rfl, p, vs, rfl, hp, rv⟩ := one_val r
    exact ⟨_, _, rfl, .inl ⟨vs, SqL.of (hle _ _ hp), rfl⟩, by rw [rv.length]; exact q _ _ _ (Ext.refl hle) rfl⟩
  · cases e
    obtain ⟨v, rfl, p, vs, rfl, hp, rv⟩ := one_val r
    exact ⟨_, _, rfl, .inl ⟨vs, hle.seq hp, rfl⟩, by rw [rv.length]; exact q _ _ _ (Ext.refl hle) rfl⟩
  · split at e
    · rename_i z
      cases e
      obtain ⟨v, rfl, rfl⟩ := one_val r
      exact ⟨_, _, rfl, ⟨of_decide_eq_true z, rfl⟩, q _ _ _ (Ext.refl hle) rfl⟩
    · cases e
  · cases e
def fAbs : List D → Option D
  | [.int i] => some (.int (if i < 0 then -i else i))
  | _ => none
theorem ok_abs {K : PySem.W.Frag} : RnOk K cl (fun xs H Q => ∃ i, xs = [.int i] ∧ Q (.int (if i < 0 then -i else i)) H) fAbs := fun G H xs ds d Q hle him r e q => by
  unfold fAbs at e
  split at e
  · cases e
    obtain ⟨v, rfl, rfl⟩ := one_val r
    exact ⟨_, rfl, q _ _ _ (Ext.refl hle) rfl⟩
  · cases e
def fInt : List D → Option D
  | [.int i] => some (.int i)
  | [.bl k] => some (.int (if k then 1 else 0))
  | _ => none
theorem ok_int {K : PySem.W.Frag} : RnOk K cl (fun xs H Q => (∃ i, xs = [.int i] ∧ Q (.int i) H) ∨ ∃ k, xs = [.bl k] ∧ Q (.int (if k then 1 else 0)) H) fInt := fun G H xs ds d Q hle him r e q => by
  unfold fInt at e
  split at e
  · cases e
    obtain ⟨v, rfl, rfl⟩ := one_val r
    exact .inl ⟨_, rfl, q _ _ _ (Ext.refl hle) rfl⟩
  · cases e
    obtain ⟨v, rfl, rfl⟩ := one_val r
    exact .inr ⟨_, rfl, q _ _ _ (Ext.refl hle) rfl⟩
  · cases e
def fTup : List D → Option D
  | [.tup ds] => some (.tup ds)
  | [.lst ds] => some (.tup ds)
  | [.rol ds] => some (.tup ds)
  | _ => none
theorem ok_tup {K : PySem.W.Frag} : RnOk K cl (fun xs H Q => ∃ p ys, xs = [.ref p] ∧ ((SqL K H p ys ∧ ∀ l, H l = none → Q (.ref l) (upd H l (.tup ys))) ∨ (SqT K H p ys ∧ Q (.ref p) H))) fTup := fun G H xs ds d Q hle him r e q => by
  unfold fTup at e
  split at e
  · cases e
    obtain ⟨v, rfl, p, vs, rfl, hp, rv⟩ := one_val r
    exact ⟨p, vs, rfl, .inr ⟨(hle.tup hp).seq, q _ _ _ (Ext.refl hle) ⟨p, vs, rfl, hp, rv⟩⟩⟩
  · cases e
    obtain ⟨v, rfl, p, vs, rfl, hp, rv⟩ := one_val r
    refine ⟨p, vs, rfl, .inl ⟨SqL.of (hle _ _ hp), fun w hw => ?_⟩⟩
    have ex := Ext.new hle hw (.tup vs)
    exact q _ _ _ ex ⟨w, _, rfl, .inl upd_same, rv.mono ex.le⟩
  · cases e
    obtain ⟨v, rfl, p, vs, rfl, hp, rv⟩ := one_val r
    refine ⟨p, vs, rfl, .inl ⟨hle.seq hp, fun w hw => ?_⟩⟩
    have ex := Ext.new hle hw (.tup vs)
    exact q _ _ _ ex ⟨w, _, rfl, .inl upd_same, rv.mono ex.le⟩
  · cases e
theorem sd_len {p : Pos} {g : MD} (hm : X.mg "len" = none) (ha : SD X cl e g) (hg : Gl X "len" := by rfl) (he : starEach [e] X.env = [(false, eval e X.env)] := by rfl) : SD X cl (.Call (.Name "len" p) [e] [] pos) (mFn fLen (dsCons g dsNil)) :=
  sd_callB call_len ok_len hm PySem.boot_len (sds_cons ha sds_nil he) hg (by decide) (by decide) he rfl
theorem sd_abs {p : Pos} {g : MD} (hm : X.mg "abs" = none) (ha : SD X cl e g) (hg : Gl X "abs" := by rfl) (he : starEach [e] X.env = [(false, eval e X.env)] := by rfl) : SD X cl (.Call (.Name "abs" p) [e] [] pos) (mFn fAbs (dsCons g dsNil)) :=
  sd_callB call_abs ok_abs hm (by decide +kernel) (sds_cons ha sds_nil he) hg (by decide) (by decide) he rfl
theorem sd_intC {p : Pos} {g : MD} (hm : X.mg "int" = none) (ha : SD X cl e g) (hg : Gl X "int" := by rfl) (he : starEach [e] X.env = [(false, eval e X.env)] := by rfl) : SD X cl (.Call (.Name "int" p) [e] [] pos) (mFn fInt (dsCons g dsNil)) :=
  sd_callTy call_int1 ok_int hm (by decide +kernel) (sds_cons ha sds_nil he) hg (by decide) (by decide) he rfl
theorem sd_tuple {p : Pos} {g : MD} (hm : X.mg "tuple" = none) (ha : SD X cl e g) (hg : Gl X "tuple" := by rfl) (he : starEach [e] X.env = [(false, eval e X.env)] := by rfl) : SD X cl (.Call (.Name "tuple" p) [e] [] pos) (mFn fTup (dsCons g dsNil)) :=
  sd_callTy call_tuple_of ok_tup hm (by decide +kernel) (sds_cons ha sds_nil he) hg (by decide) (by decide) he rfl
/-- list(x): a new list -/
def oList (g : MD) : MO := fun ρ => match g ρ with
  | some (.tup ds, ρ1) => some (.lst (ds.map .fz), ρ1)
  | some (.lst ds, ρ1) => some (.lst (ds.map .fz), ρ1)
  | some (.rol ds, ρ1) => some (.lst (ds.map .fz), ρ1)
  | _ => none
theorem so_list {p : Pos} {g : MD} (hm : X.mg "list" = none) (ha : SD X cl e g) (hg : Gl X "list" := by rfl) (he : starEach [e] X.env = [(false, eval e X.env)] := by rfl) : SO X cl (.Call (.Name "list" p) [e] [] pos) (oList g) :=
  PE.weak (pe_callTy call_list_of hg hm (by decide +kernel) (sds_cons ha sds_nil he) (by decide) (by decide) he rfl) fun σ H Q ⟨G, L, ρ, d, ρ', hs, hg, q⟩ => by
    unfold oList at hg
    split at hg
    · rename_i ds ρ1 e1
      cases hg
      refine ⟨G, L, ρ, [.tup ds], ρ', hs, by simp [dsCons, dsNil, e1], fun vs H1 G1 L1 s1 r1 f1 => ?_⟩
      obtain ⟨v, rfl, p, ws, rfl, hp, rv⟩ := one_val r1
      refine ⟨p, ws, rfl, .inr (s1.le.tup hp).seq, fun w hw => ?_⟩
      obtain ⟨s2, f2⟩ := s1.pushLst hw rv
      exact q _ _ _ _ s2 (f1.trans f2)
    · rename_i ds ρ1 e1
      cases hg
      refine ⟨G, L, ρ, [.lst ds], ρ', hs, by simp [dsCons, dsNil, e1], fun vs H1 G1 L1 s1 r1 f1 => ?_⟩
      obtain ⟨v, rfl, p, ws, rfl, hp, rv⟩ := one_val r1
      refine ⟨p, ws, rfl, .inl (SqL.of (s1.le _ _ hp)), fun w hw => ?_⟩
      obtain ⟨s2, f2⟩ := s1.pushLst hw rv
      exact q _ _ _ _ s2 (f1.trans f2)
    · rename_i ds ρ1 e1
      cases hg
      refine ⟨G, L, ρ, [.rol ds], ρ', hs, by simp [dsCons, dsNil, e1], fun vs H1 G1 L1 s1 r1 f1 => ?_⟩
      obtain ⟨v, rfl, p, ws, rfl, hp, rv⟩ := one_val r1
      refine ⟨p, ws, rfl, .inl (s1.le.seq hp), fun w hw => ?_⟩
      obtain ⟨s2, f2⟩ := s1.pushLst hw rv
      exact q _ _ _ _ s2 (f1.trans f2)
    · cases hg
end
end PI
set_option Elab.async false
set_option linter.all false
set_option maxRecDepth 100000
set_option maxHeartbeats 1000000
set_option autoImplicit false
/-! PI8: tests, attributes; slots set and dropped; targets; what is walked. -/
namespace PI
open PySem PySem.Spec L2

section
variable {X : Cx} {cl : Cl} {e a b c o : Expr} {es rest : List Expr} {pos : Pos}
/-! ### tests -/
def bOf (g : MD) : MB := fun ρ => match g ρ with
  | some (.bl k, ρ1) => some (k, ρ1)
  | _ => none
theorem bOf_some {g : MD} {ρ ρ' : Rho} {k : Bool} (h : bOf g ρ = some (k, ρ')) : g ρ = some (.bl k, ρ') := by
  unfold bOf at h
  split at h
  · rename_i k' ρ1 e1
    cases h
    exact e1
  · cases h
theorem st_val {g : MD} (h : SD X cl e g) (he : ∀ whole, isTrue e X.env whole = (do let v ← whole; standAt e.pos; holding [v] (truthy v)) := by intro _; rfl) : ST X cl e (bOf g) := PT.weak (pt_val h he) fun σ H Q ⟨G, L, ρ, k, ρ', hs, hg, q⟩ =>
  ⟨G, L, ρ, _, _, hs, bOf_some hg, fun v H' G' L' s r f => ⟨k, r, q H' G' L' s f⟩⟩
theorem st_cmp {op : CmpOp} {r : R2} {f : D → D → Option D} {ga gb : MD} (ho : OpR X (compareOp op) r) (hr : R2Ok X.K cl r f) (ha : SD X cl a ga) (hb : SD X cl b gb) (hm : behindInMarks op b = false := by rfl) : ST X cl (.Compare a [op] [b] pos) (bOf (mOp2 f ga gb)) :=
  PT.weak (pt_cmpR ho ha hb hm) fun σ H Q ⟨G, L, ρ, k, ρ', hs, hg, q⟩ => two hr ⟨G, L, ρ, _, _, hs, bOf_some hg, fun v H' G' L' s r f => ⟨k, r, q H' G' L' s f⟩⟩
theorem st_eq {ga gb : MD} (hu : X.A.units + 64 < cLine) (ha : SD X cl a ga) (hb : SD X cl b gb) : ST X cl (.Compare a [.Eq] [b] pos) (bOf (mOp2 dEqD ga gb)) := st_cmp (op_eq.or (op_eqD hu)) ok_eq ha hb (nomark _)
theorem st_ne {ga gb : MD} (hu : X.A.units + 64 < cLine) (ha : SD X cl a ga) (hb : SD X cl b gb) : ST X cl (.Compare a [.NotEq] [b] pos) (bOf (mOp2 dNeD ga gb)) := st_cmp (op_ne.or (op_neD hu)) ok_ne ha hb (nomark _)
theorem st_lt {ga gb : MD} (ha : SD X cl a ga) (hb : SD X cl b gb) : ST X cl (.Compare a [.Lt] [b] pos) (bOf (mOp2 (dIntB fun i j => decide (i < j)) ga gb)) := st_cmp op_lt ok_intB ha hb (nomark _)
theorem st_le {ga gb : MD} (ha : SD X cl a ga) (hb : SD X cl b gb) : ST X cl (.Compare a [.LtE] [b] pos) (bOf (mOp2 (dIntB fun i j => decide (i ≤ j)) ga gb)) := st_cmp op_le ok_intB ha hb (nomark _)
theorem st_gt {ga gb : MD} (ha : SD X cl a ga) (hb : SD X cl b gb) : ST X cl (.Compare a [.Gt] [b] pos) (bOf (mOp2 (dIntB fun i j => decide (j < i)) ga gb)) := st_cmp op_gt ok_intB ha hb (nomark _)
theorem st_ge {ga gb : MD} (ha : SD X cl a ga) (hb : SD X cl b gb) : ST X cl (.Compare a [.GtE] [b] pos) (bOf (mOp2 (dIntB fun i j => decide (j ≤ i)) ga gb)) := st_cmp op_ge ok_intB ha hb (nomark _)
theorem okr_is {K : PySem.W.Frag} : R2Ok K cl (fun x y H Q => (y = .non ∧ Q (.bl (decide (x = .non))) H) ∨ rIsB x y H Q) dIs := fun G H x y dx dy d Q hle him rx ry e q => by
  obtain ⟨k, rfl, z⟩ := dIs_ok rx ry e
  have q := q (.bl k) H G (Ext.refl hle) rfl
  rcases z with ⟨z1, z2⟩ | ⟨p, p', z1, z2, z3⟩
  · exact .inl ⟨z1, by rw [← z2]; exact q⟩
  · exact .inr ⟨p, p', z1, z2, by rw [← z3]; exact q⟩
theorem okr_isNot {K : PySem.W.Frag} : R2Ok K cl (fun x y H Q => (y = .non ∧ Q (.bl (!decide (x = .non))) H) ∨ rNotB x y H Q) dIsNot := fun G H x y dx dy d Q hle him rx ry e q => by
  unfold dIsNot at e
  split at e
  · rename_i k e1
    cases e
    obtain ⟨k', ek, z⟩ := dIs_ok rx ry e1
    cases ek
    have q := q (.bl !k) H G (Ext.refl hle) rfl
    rcases z with ⟨z1, z2⟩ | ⟨p, p', z1, z2, z3⟩
    · exact .inl ⟨z1, by rw [← z2]; exact q⟩
    · exact .inr ⟨p, p', z1, z2, by rw [← z3]; exact q⟩
  · cases e
theorem st_is {ga gb : MD} (ha : SD X cl a ga) (hb : SD X cl b gb) : ST X cl (.Compare a [.Is] [b] pos) (bOf (mOp2 dIs ga gb)) := st_cmp (op_isN.or op_isBl) okr_is ha hb (nomark _)
theorem st_isNot {ga gb : MD} (ha : SD X cl a ga) (hb : SD X cl b gb) : ST X cl (.Compare a [.IsNot] [b] pos) (bOf (mOp2 dIsNot ga gb)) := st_cmp (op_notN.or op_notBl) okr_isNot ha hb (nomark _)
def bNot (g : MB) : MB := fun ρ => match g ρ with
  | some (k, ρ1) => some (!k, ρ1)
  | none => none
theorem st_not {g : MB} (h : ST X cl a g) : ST X cl (.UnaryOp .Not a pos) (bNot g) := PT.weak (pt_not h) fun σ H Q ⟨G, L, ρ, k, ρ', hs, hg, q⟩ => by
  unfold bNot at hg
  split at hg
  · rename_i k' ρ1 e1
    cases hg
    exact ⟨G, L, ρ, k', _, hs, e1, q⟩
  · cases hg
def bAnd (g h : MB) : MB := fun ρ => match g ρ with
  | some (true, ρ1) => h ρ1
  | some (false, ρ1) => some (false, ρ1)
  | none => none
def bOr (g h : MB) : MB := fun ρ => match g ρ with
  | some (true, ρ1) => some (true, ρ1)
  | some (false, ρ1) => h ρ1
  | none => none
def SW (X : Cx) (cl : Cl) (e : Expr) (g : MB) : Prop := PW X e (tB' X cl g)
theorem PW.weak {t t' : TT} (h : PW X e t) (w : ∀ σ H Q, t' σ H Q → t σ H Q) : PW X e t' := ⟨fun whole pins s σ H Q I q => h.run whole pins s σ H Q I (w σ H Q q)⟩
theorem SW.st {g : MB} (h : SW X cl e g) : ST X cl e g := PW.pt h
theorem sw_and1 {g : MB} (h : ST X cl a g) : SW X cl (.BoolOp .And [a] pos) g := pw_and1 h
theorem sw_or1 {g : MB} (h : ST X cl a g) : SW X cl (.BoolOp .Or [a] pos) g := pw_or1 h
theorem sw_and {g h : MB} (ha : ST X cl a g) (hb : SW X cl (.BoolOp .And (b :: rest) pos) h) : SW X cl (.BoolOp .And (a :: b :: rest) pos) (bAnd g h) := PW.weak (pw_and ha hb) fun σ H Q ⟨G, L, ρ, k, ρ', hs, hg, q⟩ => by
  unfold bAnd at hg
  split at hg
  · rename_i ρ1 e1
    exact ⟨G, L, ρ, true, ρ1, hs, e1, fun H' G' L' s f => iteT ⟨G', L', ρ1, k, ρ', s, hg, fun H2 G2 L2 s2 f2 => q H2 G2 L2 s2 (f.trans f2)⟩⟩
  · rename_i ρ1 e1
    cases hg
    exact ⟨G, L, ρ, false, _, hs, e1, fun H' G' L' s f => iteF (q H' G' L' s f)⟩
  · cases hg
theorem sw_or {g h : MB} (ha : ST X cl a g) (hb : SW X cl (.BoolOp .Or (b :: rest) pos) h) : SW X cl (.BoolOp .Or (a :: b :: rest) pos) (bOr g h) := PW.weak (pw_or ha hb) fun σ H Q ⟨G, L, ρ, k, ρ', hs, hg, q⟩ => by
  unfold bOr at hg
  split at hg
  · rename_i ρ1 e1
    cases hg
    exact ⟨G, L, ρ, true, _, hs, e1, fun H' G' L' s f => iteT (q H' G' L' s f)⟩
  · rename_i ρ1 e1
    exact ⟨G, L, ρ, false, ρ1, hs, e1, fun H' G' L' s f => iteF ⟨G', L', ρ1, k, ρ', s, hg, fun H2 G2 L2 s2 f2 => q H2 G2 L2 s2 (f.trans f2)⟩⟩
  · cases hg
/-- truth of any frozen value -/
def dTru : D → Option Bool
  | .non => some false
  | .bl b => some b
  | .int i => some (i != 0)
  | .str y => (match decide (y.length ≤ sizeLine) with
    | true => some ((y.length : Int) != 0)
    | false => none)
  | .tup ds => some (!ds.isEmpty)
  | .lst ds => some (!ds.isEmpty)
  | .rol ds => some (!ds.isEmpty)
  | _ => none
def bTru (g : MD) : MB := fun ρ => match g ρ with
  | some (d, ρ1) => (match dTru d with
    | some k => some (k, ρ1)
    | none => none)
  | none => none
theorem RepVs.emp {K : PySem.W.Frag} {G : Hp} {ds : List D} {vs : List V} (r : RepVs K cl G vs ds) : ds.isEmpty = vs.isEmpty := by
  have := r.length
  cases ds <;> cases vs <;> simp_all
theorem st_tru {g : MD} (h : SD X cl a g) (he : ∀ whole, isTrue a X.env whole = (do let v ← whole; standAt a.pos; holding [v] (truthy v)) := by intro _; rfl) : ST X cl a (bTru g) := PT.weak (pt_truth h he) fun σ H Q ⟨G, L, ρ, k, ρ', hs, hg, q⟩ => by
  unfold bTru at hg
  split at hg
  · rename_i d ρ1 e1
    split at hg
    · rename_i k' e2
      cases hg
      refine ⟨G, L, ρ, d, _, hs, e1, fun v H' G' L' s r f => ⟨k, ?_, q H' G' L' s f⟩⟩
      unfold dTru at e2
      split at e2
      · cases e2; cases r; rfl
      · cases e2; cases r; rfl
      · cases e2; cases r; rfl
      · split at e2
        · rename_i z
          cases e2; cases r
          exact ⟨of_decide_eq_true z, rfl⟩
        · cases e2
      · cases e2
        obtain ⟨p, vs, rfl, hp, rv⟩ := r
        exact .inr (.inl ⟨vs, (s.le.tup hp).seq, by rw [rv.emp]⟩)
      · cases e2
        obtain ⟨p, vs, rfl, hp, rv⟩ := r
        exact .inl ⟨vs, SqL.of (s.le _ _ hp), by rw [rv.emp]⟩
      · cases e2
        obtain ⟨p, vs, rfl, hp, rv⟩ := r
        exact .inl ⟨vs, s.le.seq hp, by rw [rv.emp]⟩
      · cases e2
    · cases hg
  · cases hg
/-! ### and, or, not, if as values -/
def mBool (g : MB) : MD := fun ρ => match g ρ with
  | some (k, ρ1) => some (.bl k, ρ1)
  | none => none
def mAnd (g h : MD) : MD := fun ρ => match g ρ with
  | some (.bl true, ρ1) => h ρ1
  | some (.bl false, ρ1) => some (.bl false, ρ1)
  | _ => none
def mOr (g h : MD) : MD := fun ρ => match g ρ with
  | some (.bl true, ρ1) => some (.bl true, ρ1)
  | some (.bl false, ρ1) => h ρ1
  | _ => none
theorem sd_one {op : BoolOp} {g : MD} (h : SD X cl a g) : SD X cl (.BoolOp op [a] pos) g := pe_one h
theorem sd_and {g h : MD} (ha : SD X cl a g) (hb : SD X cl (.BoolOp .And (b :: rest) pos) h) : SD X cl (.BoolOp .And (a :: b :: rest) pos) (mAnd g h) := PE.weak (pe_and ha hb) fun σ H Q ⟨G, L, ρ, k, ρ', hs, hg, q⟩ => by
  unfold mAnd at hg
  split at hg
  · rename_i ρ1 e1
    exact ⟨G, L, ρ, _, ρ1, hs, e1, fun v H' G' L' s r f => ⟨true, r, iteT ⟨G', L', ρ1, k, ρ', s, hg, fun v2 H2 G2 L2 s2 r2 f2 => q v2 H2 G2 L2 s2 r2 (f.trans f2)⟩⟩⟩
  · rename_i ρ1 e1
    cases hg
    exact ⟨G, L, ρ, _, _, hs, e1, fun v H' G' L' s r f => ⟨false, r, iteF (q _ H' G' L' s rfl f)⟩⟩
  · cases hg
theorem sd_or {g h : MD} (ha : SD X cl a g) (hb : SD X cl (.BoolOp .Or (b :: rest) pos) h) : SD X cl (.BoolOp .Or (a :: b :: rest) pos) (mOr g h) := PE.weak (pe_or ha hb) fun σ H Q ⟨G, L, ρ, k, ρ', hs, hg, q⟩ => by
  unfold mOr at hg
  split at hg
  · rename_i ρ1 e1
    cases hg
    exact ⟨G, L, ρ, _, _, hs, e1, fun v H' G' L' s r f => ⟨true, r, iteT (q _ H' G' L' s rfl f)⟩⟩
  · rename_i ρ1 e1
    exact ⟨G, L, ρ, _, ρ1, hs, e1, fun v H' G' L' s r f => ⟨false, r, iteF ⟨G', L', ρ1, k, ρ', s, hg, fun v2 H2 G2 L2 s2 r2 f2 => q v2 H2 G2 L2 s2 r2 (f.trans f2)⟩⟩⟩
  · cases hg
def dNot : D → Option D
  | .bl k => some (.bl !k)
  | _ => none
theorem sd_not {g : MD} (ha : SD X cl a g) : SD X cl (.UnaryOp .Not a pos) (mOp1 dNot g) := PE.weak (pe_not ha) fun σ H Q h => one (r := fun x H1 Q => ∃ c, x = .bl c ∧ Q (.bl (!c)) H1) (fun G H x dx d Q hle him rx e q => by
  unfold dNot at e
  split at e
  · cases e
    exact ⟨_, rx, q _ _ _ (Ext.refl hle) rfl⟩
  · cases e) h
def mIf (c : MB) (g h : MD) : MD := fun ρ => match c ρ with
  | some (true, ρ1) => g ρ1
  | some (false, ρ1) => h ρ1
  | none => none
theorem sd_if {k : MB} {g h : MD} (hc : ST X cl c k) (ha : SD X cl a g) (hb : SD X cl b h) : SD X cl (.IfExp c a b pos) (mIf k g h) := PE.weak (pe_ifExp hc ha hb) fun σ H Q ⟨G, L, ρ, d, ρ', hs, hg, q⟩ => by
  unfold mIf at hg
  split at hg
  · rename_i ρ1 e1
    exact ⟨G, L, ρ, _, ρ1, hs, e1, fun H' G' L' s f => iteT ⟨G', L', ρ1, d, ρ', s, hg, fun v2 H2 G2 L2 s2 r2 f2 => q v2 H2 G2 L2 s2 r2 (f.trans f2)⟩⟩
  · rename_i ρ1 e1
    exact ⟨G, L, ρ, _, ρ1, hs, e1, fun H' G' L' s f => iteF ⟨G', L', ρ1, d, ρ', s, hg, fun v2 H2 G2 L2 s2 r2 f2 => q v2 H2 G2 L2 s2 r2 (f.trans f2)⟩⟩
  · cases hg

/-! ### attributes of frozen instances -/
def lookS : List Str → List D → Str → Option D
  | k :: ks, d :: ds, j => if k = j then some d else lookS ks ds j
  | _, _, _ => none
theorem lookS_ok {K : PySem.W.Frag} {G : Hp} : ∀ {fs : List (Str × V)} {ds : List D} {j : Str} {d : D}, RepVs K cl G (fs.map (·.2)) ds → lookS (fs.map (·.1)) ds j = some d → ∃ v, fs.lookup j = some v ∧ RepV K cl G v d
  | [], _, _, _, _, h => by simp [lookS] at h
  | (k, v) :: kvs, [], _, _, r, _ => by cases r
  | (k, v) :: kvs, d :: ds, j, d', r, h => by
    obtain ⟨v', ws, e, r0, rs⟩ := r
    simp only [List.map_cons, List.cons.injEq] at e
    obtain ⟨rfl, rfl⟩ := e
    simp only [List.map_cons, lookS] at h
    split at h
    · rename_i z
      cases h
      exact ⟨v, by subst z; simp [List.lookup], r0⟩
    · rename_i z
      obtain ⟨w, h1, h2⟩ := lookS_ok rs h
      refine ⟨w, ?_, h2⟩
      have : (j == k) = false := by simpa using fun q => z q.symm
      simp [List.lookup, this, h1]
def dAttr (ok : Nat → Bool) (f : Str) : D → Option D
  | .obj c ns ds => (match ok c with
    | true => lookS ns ds f
    | false => none)
  | _ => none
theorem sd_attr {g : MD} {f : Str} {ok : Nat → Bool} (hok : ∀ c, ok c = true → Cls X.K (cl c) ∧ NoAttr X.K (cl c) f) (he : SD X cl e g) (hb : attributeBase e f X.env (eval e X.env) = eval e X.env := by rfl) : SD X cl (.Attribute e f pos) (mOp1 (dAttr ok f) g) :=
  PE.weak (pe_fld he hb) fun σ H Q h => one (r := fun x H1 Q => ∃ a C dx fs v, x = .ref a ∧ H1 a = some (.ins C dx fs) ∧ Cls X.K C ∧ NoAttr X.K C f ∧ fs.lookup f = some v ∧ Q v H1) (fun G H x dx d Q hle him rx e q => by
    unfold dAttr at e
    split at e
    · split at e
      · rename_i z
        obtain ⟨a, dx, fs, rfl, ha, hn, rv⟩ := rx
        subst hn
        obtain ⟨v, h1, h2⟩ := lookS_ok rv e
        obtain ⟨c1, c2⟩ := hok _ z
        exact ⟨a, _, dx, fs, v, rfl, hle _ _ ha, c1, c2, h1, q _ _ _ (Ext.refl hle) h2⟩
      · cases e
    · cases e) h
end

/-! ### slots set and dropped -/
section
variable {K : PySem.W.Frag} {cl : Cl} {G G' H H' : Hp} {L L' : Lab} {σ σ' τ : St} {ρ ρ' ω : Rho}
/-- the roots without some slots -/
theorem SRep.drop (h : SRep K cl σ H G L ρ) (S : Nat → Bool) {σ' : St} {ρ' : Rho} (hl : σ'.length = ρ'.length) (hin : ∀ i, S i = true → ∀ o, ρ'[i]? ≠ some (some o))
    (hout : ∀ i, S i = false → σ'[i]? = σ[i]? ∧ ρ'[i]? = ρ[i]?) : ∃ L', SRep K cl σ' H G L' ρ' ∧ Frame H G L H G L' := by
  let k : Nat → Option Nat := fun i => if S i = true then none else some i
  have hk : ∀ i j, k i = some j ↔ k j = some i := fun i j => by
    simp only [k]
    constructor <;> intro e <;> split at e <;> simp_all
  refine ⟨subL L k, SRep.of_rep hl (fun i o e => ?_) (h.rep.sub k k hk) fun i => ?_, ⟨fun b x e l => ⟨e, ?_, id⟩, Le.refl⟩⟩
  · cases q : S i with
    | true => exact absurd e (hin i q o)
    | false =>
      rw [(hout i q).2] at e
      rw [(hout i q).1]
      exact h.all i o e
  · simp only [k]
    cases q : S i with
    | true =>
      show none = _
      cases z : rootsOf σ' ρ' i with
      | none => rfl
      | some p => exact absurd (rootsOf_some.mp z).2 (hin i q p.2)
    | false =>
      show rootsOf σ ρ i = _
      unfold rootsOf
      rw [(hout i q).1, (hout i q).2]
  · unfold subL
    rw [l]
/-- a temporary root becomes a slot's -/
theorem SRep.store {v : V} {o : O} (h : SRep K cl (σ ++ [some v]) H G L (ρ ++ [some o])) {i : Nat} (hi : i < ρ.length) : ∃ L', SRep K cl (σ.set i (some v)) H G L' (ρ.set i (some o)) ∧ Frame H G L H G L' := by
  have hl : σ.length = ρ.length := by simpa using h.len
  let n := ρ.length
  let k : Nat → Option Nat := fun j => if j = i then some n else if j < n then some j else none
  let k' : Nat → Option Nat := fun j => if j = n then some i else if j = i then none else if j < n then some j else none
  have hk : ∀ a b, k' a = some b ↔ k b = some a := fun a b => by
    simp only [k, k']
    constructor
    · intro e
      split at e
      · cases e
        rename_i z
        rw [if_pos rfl, z]
      · split at e
        · cases e
        · split at e
          · cases e
            rename_i z1 z2 z3
            rw [if_neg z2, if_pos z3]
          · cases e
    · intro e
      split at e
      · cases e
        rename_i z
        rw [if_pos rfl, z]
      · split at e
        · cases e
          rename_i z1 z2
          rw [if_neg (by omega), if_neg z1, if_pos z2]
        · cases e
  refine ⟨subL L k', SRep.of_rep (by simp [hl]) (fun j o' e => ?_) (h.rep.sub k k' hk) fun j => ?_, ⟨fun b x e l => ⟨e, by unfold subL; rw [l], id⟩, Le.refl⟩⟩
  · by_cases z : j = i
    · subst z
      exact ⟨v, by rw [List.getElem?_set_self (by omega)]⟩
    · rw [List.getElem?_set_ne (Ne.symm z)] at e ⊢
      have hj := (List.getElem?_eq_some_iff.mp e).1
      obtain ⟨v', e'⟩ := h.all j o' (by rw [List.getElem?_append_left hj]; exact e)
      exact ⟨v', by rw [List.getElem?_append_left (by omega)] at e'; exact e'⟩
  · simp only [k]
    by_cases z : j = i
    · subst z
      rw [if_pos rfl]
      show rootsOf _ _ n = _
      rw [rootsOf_app hl, if_neg (by omega)]
      have e1 : rootsOf (σ.set j (some v)) (ρ.set j (some o)) j = some (v, o) := rootsOf_some.mpr ⟨List.getElem?_set_self (by omega), List.getElem?_set_self hi⟩
      rw [e1]
      simp [rootsOf, n]
    · rw [if_neg z]
      by_cases z2 : j < n
      · rw [if_pos z2]
        show rootsOf _ _ j = _
        rw [rootsOf_app hl, if_pos z2]
        unfold rootsOf
        rw [List.getElem?_set_ne (Ne.symm z), List.getElem?_set_ne (Ne.symm z)]
      · rw [if_neg z2, rootsOf_ge (by simp; omega)]
        rfl
theorem SRep.storeFz (h : SRep K cl σ H G L ρ) {v : V} {d : D} (r : RepV K cl G v d) {i : Nat} (hi : i < ρ.length) : ∃ L', SRep K cl (σ.set i (some v)) H G L' (ρ.set i (some (.fz d))) ∧ Frame H G L H G L' := (h.push r).store hi
end

/-! ### targets -/
section
variable (X : Cx) (cl : Cl)
abbrev MG := D → Rho → Option Rho
/-- T: the slots that it may set -/
def tG (T : List Nat) (g : MG) : TG := fun v σ H Q => ∃ G L ρ d ρ', SRep X.K cl σ H G L ρ ∧ RepV X.K cl G v d ∧ g d ρ = some ρ' ∧ ∀ σ' H' G' L', SRep X.K cl σ' H' G' L' ρ' → Frame H G L H' G' L' → (∀ i, i ∉ T → σ'[i]? = σ[i]?) → σ'.length = σ.length → Q σ' H'
def SG (e : Expr) (T : List Nat) (g : MG) : Prop := PG X e (tG X cl T g)
def tGs (T : List Nat) (g : List D → Rho → Option Rho) : TGs := fun vs σ H Q => ∃ G L ρ ds ρ', SRep X.K cl σ H G L ρ ∧ RepVs X.K cl G vs ds ∧ g ds ρ = some ρ' ∧ ∀ σ' H' G' L', SRep X.K cl σ' H' G' L' ρ' → Frame H G L H' G' L' → (∀ i, i ∉ T → σ'[i]? = σ[i]?) → σ'.length = σ.length → Q σ' H'
def SGs (es : List Expr) (T : List Nat) (g : List D → Rho → Option Rho) : Prop := PGs X es (tGs X cl T g)
end
section
variable {X : Cx} {cl : Cl} {e a b c o : Expr} {es rest : List Expr} {pos : Pos}
theorem PG.weak {t t' : TG} (h : PG X e t) (w : ∀ v σ H Q, t' v σ H Q → t v σ H Q) : PG X e t' := ⟨fun pins s σ H v u Q I r q => h.run pins s σ H v u Q I r (w v σ H Q q)⟩
theorem PGs.weak {t t' : TGs} (h : PGs X es t) (w : ∀ v σ H Q, t' v σ H Q → t v σ H Q) : PGs X es t' := ⟨fun pins s σ H v u Q I r q => h.run pins s σ H v u Q I r (w v σ H Q q)⟩
def gSet (i : Nat) : MG := fun d ρ => match decide (i < ρ.length) with
  | true => some (ρ.set i (some (.fz d)))
  | false => none
theorem sg_name (i : Nat) {x : Str} (h : PG X (.Name x pos) (gName i)) : SG X cl (.Name x pos) [i] (gSet i) := PG.weak h fun v σ H Q ⟨G, L, ρ, d, ρ', hs, r, hg, q⟩ => by
  unfold gSet at hg
  split at hg
  · rename_i z
    cases hg
    obtain ⟨L2, s2, f2⟩ := hs.storeFz r (of_decide_eq_true z)
    exact q _ H G L2 s2 f2 (fun j hj => by rw [List.getElem?_set_ne]; intro e; exact hj (by simp [e])) (by simp)
  · cases hg
def gsNil : List D → Rho → Option Rho := fun ds ρ => match ds with
  | [] => some ρ
  | _ => none
def gsCons (g : MG) (f : List D → Rho → Option Rho) : List D → Rho → Option Rho := fun ds ρ => match ds with
  | d :: ds => (match g d ρ with
    | some ρ1 => f ds ρ1
    | none => none)
  | [] => none
theorem sgs_nil : SGs X cl [] [] gsNil := PGs.weak pgs_nil fun v σ H Q ⟨G, L, ρ, ds, ρ', hs, r, hg, q⟩ => by
  unfold gsNil at hg
  split at hg
  · cases hg
    cases r
    exact ⟨rfl, q σ H G L hs Frame.refl (fun _ _ => rfl) rfl⟩
  · cases hg
theorem sgs_cons {T U : List Nat} {g : MG} {f : List D → Rho → Option Rho} (he : SG X cl e T g) (hr : SGs X cl es U f) (hs : (assignEach (e :: es) X.env).map (·.2) = assign e X.env :: (assignEach es X.env).map (·.2) := by rfl) : SGs X cl (e :: es) (T ++ U) (gsCons g f) := PGs.weak (pgs_cons he hr hs) fun v σ H Q ⟨G, L, ρ, ds, ρ', hs, r, hg, q⟩ => by
  unfold gsCons at hg
  split at hg
  · rename_i d ds'
    split at hg
    · rename_i ρ1 e1
      obtain ⟨v1, vs, rfl, r1, r2⟩ := r
      refine ⟨v1, vs, rfl, G, L, ρ, d, ρ1, hs, r1, e1, fun σ1 H1 G1 L1 s1 f1 k1 n1 => ⟨G1, L1, ρ1, ds', ρ', s1, r2.mono f1.le, hg, fun σ2 H2 G2 L2 s2 f2 k2 n2 => ?_⟩⟩
      exact q σ2 H2 G2 L2 s2 (f1.trans f2) (fun i hi => by
        rw [k2 i fun z => hi (List.mem_append_right _ z), k1 i fun z => hi (List.mem_append_left _ z)]) (n2.trans n1)
    · cases hg
  · cases hg
def gTupD (n : Nat) (f : List D → Rho → Option Rho) : MG := fun d ρ => match d with
  | .tup ds => (match decide (ds.length = n) with
    | true => f ds ρ
    | false => none)
  | .lst ds => (match decide (ds.length = n) with
    | true => f ds ρ
    | false => none)
  | _ => none
theorem sg_tup {T : List Nat} {f : List D → Rho → Option Rho} {k n : Nat} (h : SGs X cl es T f) (hc : X.calm = true := by rfl) (hn : (assignEach es X.env).length = n := by rfl) (hst : (assignEach es X.env).findIdx? (·.1) = none := by rfl) : SG X cl (.Tuple es k pos) T (gTupD n f) := by
  have h1 : PG X (.Tuple es k pos) (gTup X.K n (tGs X cl T f)) := pg_tup hc h hn hst
  have h2 : PG X (.Tuple es k pos) (gUnl X.K n (tGs X cl T f)) := pg_unl hc h hn hst
  refine ⟨fun pins s σ H v u Q I r hw => ?_⟩
  obtain ⟨G, L, ρ, d, ρ', hs, rv, hg, q⟩ := hw
  unfold gTupD at hg
  split at hg
  · rename_i ds
    split at hg
    · rename_i z
      obtain ⟨p, vs, rfl, hp, rs⟩ := rv
      exact h1.run pins s σ H _ u Q I r ⟨p, vs, rfl, (hs.le.tup hp).seq, by rw [rs.length]; exact of_decide_eq_true z, G, L, ρ, ds, ρ', hs, rs, hg, q⟩
    · cases hg
  · rename_i ds
    split at hg
    · rename_i z
      obtain ⟨p, vs, rfl, hp, rs⟩ := rv
      exact h2.run pins s σ H _ u Q I r ⟨p, vs, rfl, SqL.of (hs.le _ _ hp), by rw [rs.length]; exact of_decide_eq_true z, G, L, ρ, ds, ρ', hs, rs, hg, q⟩
    · cases hg
  · cases hg
end
end PI
set_option Elab.async false
set_option linter.all false
set_option maxRecDepth 100000
set_option maxHeartbeats 1000000
set_option autoImplicit false
/-! PI9: what is walked; comprehensions; statements. -/
namespace PI
open PySem PySem.Spec L2

/-! ### what is walked -/
section
variable {K : PySem.W.Frag} {cl : Cl}
structure ItOk (K : PySem.W.Frag) (cl : Cl) (J : It) (G : Hp) (ds : List D) : Prop where
  stop : ∀ i H, Le G H → ds.length ≤ i → J.stop i H
  go : ∀ (i : Nat) (H G1 : Hp) (d : D), Le G G1 → Le G1 H → (∀ b xs, H b = some (.tup xs) → G1 b = some (.tup xs)) → ds[i]? = some d → J.go i H ∧ ∀ x H', J.yld i H x H' → ∃ G', Ext H G1 H' G' ∧ RepV K cl G' x d
theorem itOk_lst {a : Addr} {vs : List V} {ds : List D} {G : Hp} (h : SqL K G a vs) (r : RepVs K cl G vs ds) : ItOk K cl (Itl K a) G ds := by
  refine ⟨fun i H hle hi => ⟨vs, hle.seq h, by rw [r.length]; exact hi⟩, fun i H G1 d h1 h2 him e => ?_⟩
  obtain ⟨v, ev, rv⟩ := r.get e
  refine ⟨⟨vs, v, (h1.trans h2).seq h, ev⟩, fun x H' y => ?_⟩
  obtain ⟨rfl, y⟩ := y
  have : x = v := by
    have := y vs ((h1.trans h2).seq h)
    rw [ev] at this
    exact (Option.some.inj this).symm
  subst this
  exact ⟨G1, Ext.refl h2, rv.mono h1⟩
theorem itOk_tup {a : Addr} {vs : List V} {ds : List D} {G : Hp} (h : TupAt K G a vs) (r : RepVs K cl G vs ds) : ItOk K cl (Itt K a) G ds := by
  refine ⟨fun i H hle hi => ⟨vs, (hle.tup h).seq, by rw [r.length]; exact hi⟩, fun i H G1 d h1 h2 him e => ?_⟩
  obtain ⟨v, ev, rv⟩ := r.get e
  refine ⟨⟨vs, v, ((h1.trans h2).tup h).seq, ev⟩, fun x H' y => ?_⟩
  obtain ⟨rfl, y⟩ := y
  have : x = v := by
    have := y vs ((h1.trans h2).tup h).seq
    rw [ev] at this
    exact (Option.some.inj this).symm
  subst this
  exact ⟨G1, Ext.refl h2, rv.mono h1⟩
def rangeD (lo : Int) (n : Nat) : List D := (List.range n).map fun (i : Nat) => D.int (lo + (i : Int))
theorem rangeD_length {lo : Int} {n : Nat} : (rangeD lo n).length = n := by simp [rangeD]
theorem itOk_rng {lo : Int} {n : Nat} {G : Hp} : ItOk K cl (Itr lo n) G (rangeD lo n) := by
  refine ⟨fun i H hle hi => by rw [rangeD_length] at hi; exact hi, fun i H G1 d h1 h2 him e => ?_⟩
  have hi := (List.getElem?_eq_some_iff.mp e).1
  rw [rangeD_length] at hi
  refine ⟨hi, fun x H' y => ?_⟩
  obtain ⟨rfl, rfl⟩ := y
  refine ⟨G1, Ext.refl h2, ?_⟩
  simp [rangeD, hi] at e
  subst e
  rfl
def zipD : List D → List D → List D
  | x :: xs, y :: ys => .tup [x, y] :: zipD xs ys
  | _, _ => []
theorem zipD_length : ∀ (xs ys : List D), (zipD xs ys).length = min xs.length ys.length
  | [], _ => by simp [zipD]
  | _ :: _, [] => by simp [zipD]
  | x :: xs, y :: ys => by simp [zipD, zipD_length xs ys]
theorem zipD_get : ∀ {xs ys : List D} {i : Nat} {d : D}, (zipD xs ys)[i]? = some d → ∃ x y, xs[i]? = some x ∧ ys[i]? = some y ∧ d = .tup [x, y]
  | [], _, _, _, h => by simp [zipD] at h
  | _ :: _, [], _, _, h => by simp [zipD] at h
  | x :: xs, y :: ys, 0, d, h => by
    simp [zipD] at h
    exact ⟨x, y, rfl, rfl, h.symm⟩
  | x :: xs, y :: ys, i + 1, d, h => by
    obtain ⟨a, b, h1, h2, h3⟩ := zipD_get (xs := xs) (ys := ys) (i := i) (by simpa [zipD] using h)
    exact ⟨a, b, by simpa using h1, by simpa using h2, h3⟩
theorem pair_new {G1 H : Hp} (h2 : Le G1 H) {T : Addr} (hT : H T = none) {x y : V} {dx dy : D} (rx : RepV K cl G1 x dx) (ry : RepV K cl G1 y dy) : ∃ G', Ext H G1 (upd H T (.tup [x, y])) G' ∧ RepV K cl G' (.ref T) (.tup [dx, dy]) := by
  have ex := Ext.new h2 hT (.tup [x, y])
  exact ⟨_, ex, T, _, rfl, .inl upd_same, x, [y], rfl, rx.mono ex.le, y, [], rfl, ry.mono ex.le, rfl⟩
theorem itOk_zipL {a b : Addr} {vs ws : List V} {ds es : List D} {G : Hp} (h : SqL K G a vs) (r : RepVs K cl G vs ds) (h' : SqL K G b ws) (r' : RepVs K cl G ws es) : ItOk K cl (Itz K a b) G (zipD ds es) := by
  refine ⟨fun i H hle hi => ?_, fun i H G1 d h1 h2 him e => ?_⟩
  · rw [zipD_length] at hi
    exact ⟨vs, ws, hle.seq h, hle.seq h', by rw [r.length, r'.length]; omega⟩
  · obtain ⟨dx, dy, e1, e2, rfl⟩ := zipD_get e
    obtain ⟨v, ev, rv⟩ := r.get e1
    obtain ⟨w, ew, rw'⟩ := r'.get e2
    have hl := h1.trans h2
    refine ⟨⟨vs, ws, v, w, hl.seq h, hl.seq h', ev, ew⟩, fun x H' y => ?_⟩
    obtain ⟨T, p, q, rfl, hT, rfl, y1, y2⟩ := y
    have e3 : p = v := by have := y1 vs (hl.seq h); rw [ev] at this; exact (Option.some.inj this).symm
    have e4 : q = w := by have := y2 ws (hl.seq h'); rw [ew] at this; exact (Option.some.inj this).symm
    subst e3 e4
    exact pair_new h2 hT (rv.mono h1) (rw'.mono h1)
theorem itOk_zipT {a b : Addr} {vs ws : List V} {ds es : List D} {G : Hp} (h : TupAt K G a vs) (r : RepVs K cl G vs ds) (h' : TupAt K G b ws) (r' : RepVs K cl G ws es) : ItOk K cl (RZ.ItzT K a b) G (zipD ds es) := by
  refine ⟨fun i H hle hi => ?_, fun i H G1 d h1 h2 him e => ?_⟩
  · rw [zipD_length] at hi
    exact ⟨vs, ws, (hle.tup h).seq, (hle.tup h').seq, by rw [r.length, r'.length]; omega⟩
  · obtain ⟨dx, dy, e1, e2, rfl⟩ := zipD_get e
    obtain ⟨v, ev, rv⟩ := r.get e1
    obtain ⟨w, ew, rw'⟩ := r'.get e2
    have hl := h1.trans h2
    refine ⟨⟨vs, ws, v, w, (hl.tup h).seq, (hl.tup h').seq, ev, ew⟩, fun x H' y => ?_⟩
    obtain ⟨T, p, q, rfl, hT, rfl, y1, y2⟩ := y
    have e3 : p = v := by have := y1 vs (hl.tup h).seq; rw [ev] at this; exact (Option.some.inj this).symm
    have e4 : q = w := by have := y2 ws (hl.tup h').seq; rw [ew] at this; exact (Option.some.inj this).symm
    subst e3 e4
    exact pair_new h2 hT (rv.mono h1) (rw'.mono h1)
end
section
variable (X : Cx) (cl : Cl)
abbrev MI := Rho → Option (List D × Rho)
def tI (g : MI) : TI := fun σ H R => ∃ G L ρ ds ρ', SRep X.K cl σ H G L ρ ∧ g ρ = some (ds, ρ') ∧ ∀ J H' G' L', SRep X.K cl σ H' G' L' ρ' → Frame H G L H' G' L' → ItOk X.K cl J G' ds → R J H'
def SI (tg e : Expr) (g : MI) : Prop := PI X tg e (tI X cl g)
end
section
variable {X : Cx} {cl : Cl} {e a b c o tg : Expr} {es rest : List Expr} {pos : Pos}
theorem PI.weak {t t' : TI} (h : L2.PI X tg e t) (w : ∀ σ H Q, t' σ H Q → t σ H Q) : L2.PI X tg e t' := ⟨fun pins s σ H Q I q => h.run pins s σ H Q I (w σ H _ q)⟩
def iSeq (g : MD) : MI := fun ρ => match g ρ with
  | some (.tup ds, ρ1) => some (ds, ρ1)
  | some (.lst ds, ρ1) => some (ds, ρ1)
  | some (.rol ds, ρ1) => some (ds, ρ1)
  | _ => none
theorem si_seq {g : MD} (h : SD X cl e g) : SI X cl tg e (iSeq g) := by
  have p1 := pi_list (tg := tg) h
  have p2 := pi_tup (tg := tg) h
  refine ⟨fun pins s σ H R I q => ?_⟩
  obtain ⟨G, L, ρ, ds, ρ', hs, hg, q⟩ := q
  unfold iSeq at hg
  split at hg
  · rename_i ds' ρ1 e1
    cases hg
    refine p2.run pins s σ H R I ⟨G, L, ρ, _, _, hs, e1, fun v H' G' L' s r f => ?_⟩
    obtain ⟨p, vs, rfl, hp, rv⟩ := r
    exact ⟨p, rfl, ⟨vs, (s.le.tup hp).seq⟩, q _ H' G' L' s f (itOk_tup hp rv)⟩
  · rename_i ds' ρ1 e1
    cases hg
    refine p1.run pins s σ H R I ⟨G, L, ρ, _, _, hs, e1, fun v H' G' L' s r f => ?_⟩
    obtain ⟨p, vs, rfl, hp, rv⟩ := r
    exact ⟨p, rfl, ⟨vs, SqL.of (s.le _ _ hp)⟩, q _ H' G' L' s f (itOk_lst (SqL.of hp) rv)⟩
  · rename_i ds' ρ1 e1
    cases hg
    refine p1.run pins s σ H R I ⟨G, L, ρ, _, _, hs, e1, fun v H' G' L' s r f => ?_⟩
    obtain ⟨p, vs, rfl, hp, rv⟩ := r
    exact ⟨p, rfl, ⟨vs, s.le.seq hp⟩, q _ H' G' L' s f (itOk_lst hp rv)⟩
  · cases hg
def inRange (i : Int) : Bool := decide (-(2 ^ 62) ≤ i ∧ i < 2 ^ 62)
def iRange1 (g : MD) : MI := fun ρ => match g ρ with
  | some (.int j, ρ1) => (match inRange j with
    | true => some (rangeD 0 j.toNat, ρ1)
    | false => none)
  | _ => none
theorem si_range1 {p : Pos} {g : MD} (hm : X.mg "range" = none) (ha : SD X cl a g) (hg : Gl X "range" := by rfl) (hs : starEach [a] X.env = [(false, eval a X.env)] := by rfl) : SI X cl tg (.Call (.Name "range" p) [a] [] pos) (iRange1 g) :=
  PI.weak (pi_range1 hg hm (sds_cons ha sds_nil hs) hs) fun σ H R ⟨G, L, ρ, ds, ρ', hs, hg, q⟩ => by
    unfold iRange1 at hg
    split at hg
    · rename_i j ρ1 e1
      split at hg
      · rename_i z
        cases hg
        refine ⟨G, L, ρ, [.int j], ρ', hs, by simp [dsCons, dsNil, e1], fun vs H' G' L' s r f => ?_⟩
        obtain ⟨v, rfl, rfl⟩ := one_val r
        obtain ⟨z1, z2⟩ := of_decide_eq_true z
        exact ⟨j, rfl, z1, z2, q _ H' G' L' s f itOk_rng⟩
      · cases hg
    · cases hg
def iRange2 (g h : MD) : MI := fun ρ => match g ρ with
  | some (.int i, ρ1) => (match h ρ1 with
    | some (.int j, ρ2) => (match inRange i && inRange j with
      | true => some (rangeD i (j - i).toNat, ρ2)
      | false => none)
    | _ => none)
  | _ => none
theorem si_range2 {p : Pos} {g h : MD} (hm : X.mg "range" = none) (ha : SD X cl a g) (hb : SD X cl b h) (hg : Gl X "range" := by rfl) (hs : starEach [a, b] X.env = [(false, eval a X.env), (false, eval b X.env)] := by rfl) (hs2 : starEach [b] X.env = [(false, eval b X.env)] := by rfl) :
    SI X cl tg (.Call (.Name "range" p) [a, b] [] pos) (iRange2 g h) :=
  PI.weak (pi_range2 hg hm (sds_cons ha (sds_cons hb sds_nil hs2) (by rw [hs, hs2])) hs hs2) fun σ H R ⟨G, L, ρ, ds, ρ', hs, hg, q⟩ => by
    unfold iRange2 at hg
    split at hg
    · rename_i i ρ1 e1
      split at hg
      · rename_i j ρ2 e2
        split at hg
        · rename_i z
          cases hg
          refine ⟨G, L, ρ, [.int i, .int j], ρ', hs, by simp [dsCons, dsNil, e1, e2], fun vs H' G' L' s r f => ?_⟩
          obtain ⟨v, ws, rfl, rfl, r⟩ := r
          obtain ⟨w, rfl, rfl⟩ := one_val r
          obtain ⟨z1, z2⟩ := Bool.and_eq_true_iff.mp z
          obtain ⟨z3, z4⟩ := of_decide_eq_true z1
          obtain ⟨z5, z6⟩ := of_decide_eq_true z2
          exact ⟨i, j, rfl, ⟨z3, z4, z5, z6⟩, q _ H' G' L' s f itOk_rng⟩
        · cases hg
      · cases hg
    · cases hg
def zipDD : D → D → Option (List D)
  | .tup xs, .tup ys => some (zipD xs ys)
  | .lst xs, .lst ys => some (zipD xs ys)
  | _, _ => none
def iZip (g h : MD) : MI := fun ρ => match g ρ with
  | some (x, ρ1) => (match h ρ1 with
    | some (y, ρ2) => (match zipDD x y with
      | some ds => some (ds, ρ2)
      | none => none)
    | none => none)
  | none => none
theorem si_zip {p tpos : Pos} {elts : List Expr} {kk : Nat} {g h : MD} (hm : X.mg "zip" = none) (ha : SD X cl a g) (hb : SD X cl b h) (hc : X.calm = true := by rfl) (hg : Gl X "zip" := by rfl) (hs : starEach [a, b] X.env = [(false, eval a X.env), (false, eval b X.env)] := by rfl) (hs2 : starEach [b] X.env = [(false, eval b X.env)] := by rfl) :
    SI X cl (.Tuple elts kk tpos) (.Call (.Name "zip" p) [a, b] [] pos) (iZip g h) :=
  PI.weak (RZ.pi_zipA hg hm (sds_cons ha (sds_cons hb sds_nil hs2) (by rw [hs, hs2])) (hs := by rw [hs, hs2]) (hpl := by rw [hs2]; rfl)) fun σ H R ⟨G, L, ρ, ds, ρ', hs, hg, q⟩ => by
    unfold iZip at hg
    split at hg
    · rename_i x ρ1 e1
      split at hg
      · rename_i y ρ2 e2
        split at hg
        · rename_i zs e3
          cases hg
          refine ⟨G, L, ρ, [x, y], ρ', hs, by simp [dsCons, dsNil, e1, e2], fun vs H' G' L' s r f => ?_⟩
          obtain ⟨v, ws, rfl, r1, r⟩ := r
          obtain ⟨w, rfl, r2⟩ := one_val r
          unfold zipDD at e3
          split at e3
          · cases e3
            obtain ⟨p1, vs1, rfl, hp1, rv1⟩ := r1
            obtain ⟨p2, vs2, rfl, hp2, rv2⟩ := r2
            exact ⟨p1, p2, vs1, vs2, rfl, .inr ⟨(s.le.tup hp1).seq, (s.le.tup hp2).seq, q _ H' G' L' s f (itOk_zipT hp1 rv1 hp2 rv2)⟩⟩
          · cases e3
            obtain ⟨p1, vs1, rfl, hp1, rv1⟩ := r1
            obtain ⟨p2, vs2, rfl, hp2, rv2⟩ := r2
            exact ⟨p1, p2, vs1, vs2, rfl, .inl ⟨SqL.of (s.le _ _ hp1), SqL.of (s.le _ _ hp2), q _ H' G' L' s f (itOk_zipL (SqL.of hp1) rv1 (SqL.of hp2) rv2)⟩⟩
          · cases e3
        · cases hg
      · cases hg
    · cases hg
end

/-! ### comprehensions -/
section
variable {K : PySem.W.Frag} {cl : Cl} {G G' H H' : Hp} {L L' : Lab} {σ σ' τ : St} {ρ ρ' ω : Rho}
def wipeR (ρ : Rho) : List Nat → Rho
  | [] => ρ
  | v :: vs => (wipeR ρ vs).set v none
def restR (ρ0 : Rho) : List Nat → Rho → Rho
  | [], ρ => ρ
  | v :: vs, ρ => (restR ρ0 vs ρ).set v (match ρ0[v]? with
    | some x => x
    | none => none)
theorem wipe_get : ∀ (vs : List Nat) (σ : St) (i : Nat), (wipe σ vs)[i]? = if i ∈ vs then (σ[i]?).map fun _ => none else σ[i]?
  | [], σ, i => by simp [wipe]
  | v :: vs, σ, i => by
    unfold wipe
    by_cases e : i = v
    · subst e
      rw [if_pos List.mem_cons_self]
      by_cases hl : i < σ.length
      · rw [List.getElem?_set_self (by rw [wipe_length]; exact hl), List.getElem?_eq_getElem hl]
        rfl
      · rw [List.getElem?_eq_none (by rw [List.length_set, wipe_length]; omega), List.getElem?_eq_none (by omega)]
        rfl
    · rw [List.getElem?_set_ne (Ne.symm e), wipe_get vs σ i]
      by_cases h : i ∈ vs
      · rw [if_pos h, if_pos (List.mem_cons_of_mem _ h)]
      · rw [if_neg h, if_neg (by simp [e, h])]
theorem wipeR_length (ρ : Rho) : ∀ vs : List Nat, (wipeR ρ vs).length = ρ.length
  | [] => rfl
  | v :: vs => by unfold wipeR; rw [List.length_set, wipeR_length ρ vs]
theorem wipeR_get : ∀ (vs : List Nat) (σ : Rho) (i : Nat), (wipeR σ vs)[i]? = if i ∈ vs then (σ[i]?).map fun _ => none else σ[i]?
  | [], σ, i => by simp [wipeR]
  | v :: vs, σ, i => by
    unfold wipeR
    by_cases e : i = v
    · subst e
      rw [if_pos List.mem_cons_self]
      by_cases hl : i < σ.length
      · rw [List.getElem?_set_self (by rw [wipeR_length]; exact hl), List.getElem?_eq_getElem hl]
        rfl
      · rw [List.getElem?_eq_none (by rw [List.length_set, wipeR_length]; omega), List.getElem?_eq_none (by omega)]
        rfl
    · rw [List.getElem?_set_ne (Ne.symm e), wipeR_get vs σ i]
      by_cases h : i ∈ vs
      · rw [if_pos h, if_pos (List.mem_cons_of_mem _ h)]
      · rw [if_neg h, if_neg (by simp [e, h])]
theorem restR_length (ρ0 : Rho) : ∀ (vs : List Nat) (ρ : Rho), (restR ρ0 vs ρ).length = ρ.length
  | [], _ => rfl
  | v :: vs, ρ => by unfold restR; rw [List.length_set, restR_length ρ0 vs]
theorem restR_get {ρ0 : Rho} : ∀ (vs : List Nat) (ρ : Rho) (i : Nat), ρ.length = ρ0.length → (restR ρ0 vs ρ)[i]? = if i ∈ vs then ρ0[i]? else ρ[i]?
  | [], ρ, i, _ => by simp [restR]
  | v :: vs, ρ, i, hl => by
    unfold restR
    by_cases e : i = v
    · subst e
      rw [if_pos List.mem_cons_self]
      by_cases h : i < ρ.length
      · rw [List.getElem?_set_self (by rw [restR_length]; exact h), List.getElem?_eq_getElem (show i < ρ0.length by omega)]
      · rw [List.getElem?_eq_none (by rw [List.length_set, restR_length]; omega), List.getElem?_eq_none (by omega)]
    · rw [List.getElem?_set_ne (Ne.symm e), restR_get vs ρ i hl]
      by_cases h : i ∈ vs
      · rw [if_pos h, if_pos (List.mem_cons_of_mem _ h)]
      · rw [if_neg h, if_neg (by simp [e, h])]
theorem SRep.wipe (h : SRep K cl σ H G L ρ) (vs : List Nat) : ∃ L', SRep K cl (L2.wipe σ vs) H G L' (wipeR ρ vs) ∧ Frame H G L H G L' := by
  refine h.drop (fun i => decide (i ∈ vs)) (by rw [wipe_length, wipeR_length]; exact h.len) (fun i hi o e => ?_) fun i hi => ?_
  · rw [wipeR_get, if_pos (of_decide_eq_true hi)] at e
    cases q : ρ[i]? with
    | none => rw [q] at e; cases e
    | some x => rw [q] at e; cases e
  · have hi := of_decide_eq_false hi
    rw [wipe_get, if_neg hi, wipeR_get, if_neg hi]
    exact ⟨rfl, rfl⟩
/-- frozen slots come back -/
theorem SRep.unwipe {G0 : Hp} {L0 : Lab} {H0 : Hp} {ρ0 : Rho} {vs : List Nat} (h0 : SRep K cl σ H0 G0 L0 ρ0) (hfz : ∀ i ∈ vs, ∀ o, ρ0[i]? = some (some o) → ∃ d, o = .fz d) (h : SRep K cl (L2.wipe σ vs) H G L ρ) (hle : Le G0 G) :
    SRep K cl σ H G L (restR ρ0 vs ρ) := by
  have hl : σ.length = ρ.length := by have := h.len; rw [wipe_length] at this; exact this
  have hl0 : ρ.length = ρ0.length := by have := h0.len; omega
  refine ⟨by rw [restR_length]; exact hl, fun i o e => ?_, ⟨h.rep.ge, h.rep.sep, h.rep.imm, fun i v o e => ?_, fun b p e => ?_⟩⟩
  · rw [restR_get vs ρ i hl0] at e
    split at e
    · exact h0.all i o e
    · rename_i z
      obtain ⟨v, ev⟩ := h.all i o e
      rw [wipe_get, if_neg z] at ev
      exact ⟨v, ev⟩
  · obtain ⟨e1, e2⟩ := rootsOf_some.mp e
    rw [restR_get vs ρ i hl0] at e2
    split at e2
    · rename_i z
      obtain ⟨d, rfl⟩ := hfz i z o e2
      have r := h0.rep.rep i v _ (rootsOf_some.mpr ⟨e1, e2⟩)
      exact RepV.mono hle d v r
    · rename_i z
      exact h.rep.rep i v o (rootsOf_some.mpr ⟨by rw [wipe_get, if_neg z]; exact e1, e2⟩)
  · obtain ⟨i, r, e1, e2⟩ := h.rep.own b p e
    refine ⟨i, r, e1, ?_⟩
    obtain ⟨⟨v, o⟩, e3⟩ := Option.isSome_iff_exists.mp e2
    obtain ⟨e4, e5⟩ := rootsOf_some.mp e3
    rw [wipe_get] at e4
    split at e4
    · cases q : σ[i]? with
      | none => rw [q] at e4; cases e4
      | some x => rw [q] at e4; cases e4
    · rename_i z
      rw [rootsOf_some.mpr ⟨e4, by rw [restR_get vs ρ i hl0, if_neg z]; exact e5⟩]
      rfl
/-- another object, not owned and not frozen, has changed -/
theorem SRep.other (h : SRep K cl σ H G L ρ) {p : Addr} {o : HO} (lp : L p = none) (gp : G p = none) (ht : ∀ xs, o ≠ .tup xs) : SRep K cl σ (upd H p o) G L ρ := by
  refine ⟨h.len, h.all, ⟨fun b x hb => ?_, fun b q l => ?_, fun b xs e => ?_, fun i v t e => ?_, h.rep.own⟩⟩
  · have : b ≠ p := fun z => by rw [z, gp] at hb; cases hb
    rw [upd_ne this]
    exact h.le b x hb
  · have : b ≠ p := fun z => by rw [z, lp] at l; cases l
    obtain ⟨g, x, hx⟩ := h.rep.sep b q l
    exact ⟨g, x, by rw [upd_ne this]; exact hx⟩
  · by_cases z : b = p
    · subst z
      rw [upd_same] at e
      exact absurd (Option.some.inj e) (ht xs)
    · rw [upd_ne z] at e
      exact h.rep.imm b xs e
  · have := RepO.move (L := L) (H := H) (L' := L) (H' := upd H p o) (G' := G) (p := [i]) (p' := [i]) Le.refl (fun a q l => ⟨l, fun x hx => by
      have : a ≠ p := fun z => by rw [z, lp] at l; cases l
      rw [upd_ne this]; exact hx⟩) t v [] (by simpa using h.rep.rep i v t e)
    simpa using this
/-- an object that is not owned and not frozen becomes a root -/
theorem SRep.adopt (h : SRep K cl σ H G L ρ) {p : Addr} {vs : List V} {ds : List D} (hp : H p = some (.lst vs)) (lp : L p = none) (gp : G p = none) (r : RepVs K cl G vs ds) :
    SRep K cl (σ ++ [some (.ref p)]) H G (updL L p [ρ.length]) (ρ ++ [some (.lst (ds.map .fz))]) := by
  refine ⟨by simp [h.len], fun i o e => ?_, ⟨h.rep.ge, fun b q l => ?_, h.rep.imm, fun i v o e => ?_, fun b q l => ?_⟩⟩
  · rw [get_app] at e ⊢
    rw [h.len]
    split at e
    · rename_i z
      rw [if_pos z]
      exact h.all i o e
    · rename_i z
      rw [if_neg z]
      split at e
      · rename_i z2
        rw [if_pos z2]
        exact ⟨_, rfl⟩
      · cases e
  · unfold updL at l
    split at l
    · rename_i z
      subst z
      exact ⟨gp, _, hp⟩
    · exact h.rep.sep b q l
  · rw [rootsOf_app h.len] at e
    split at e
    · have := RepO.move (L := L) (H := H) (L' := updL L p [ρ.length]) (H' := H) (G' := G) (p := [i]) (p' := [i]) Le.refl (fun a q l => ⟨by
        have : a ≠ p := fun z => by rw [z, lp] at l; cases l
        unfold updL
        rw [if_neg this]
        exact l, fun _ x => x⟩) o v [] (by simpa using h.rep.rep i v o e)
      simpa using this
    · rename_i z
      have : i = ρ.length := by
        have e2 := (rootsOf_some.mp e).1
        have := (List.getElem?_eq_some_iff.mp e2).1
        have := h.len
        simp at *
        omega
      subst this
      simp [rootsOf] at e
      obtain ⟨e1, e2⟩ := e
      subst e1 e2
      exact ⟨p, vs, rfl, by unfold updL; rw [if_pos rfl], hp, repOs_fz ds vs _ 0 r⟩
  · unfold updL at l
    split at l
    · cases l
      refine ⟨_, _, rfl, ?_⟩
      rw [rootsOf_app h.len, if_neg (by omega)]
      simp [rootsOf]
    · obtain ⟨i, r', e1, e2⟩ := h.rep.own b q l
      refine ⟨i, r', e1, ?_⟩
      obtain ⟨⟨v1, o⟩, e3⟩ := Option.isSome_iff_exists.mp e2
      rw [rootsOf_app h.len, if_pos (List.getElem?_eq_some_iff.mp (rootsOf_some.mp e3).2).1, e3]
      rfl

structure FrameX (p : Addr) (H G : Hp) (L : Lab) (H' G' : Hp) (L' : Lab) : Prop where
  keep : ∀ b x, b ≠ p → H b = some x → L b = none → H' b = some x ∧ L' b = none ∧ (G b = none → G' b = none)
  le : Le G G'
theorem Frame.x (f : Frame H G L H' G' L') (p : Addr) : FrameX p H G L H' G' L' := ⟨fun b x _ => f.keep b x, f.le⟩
theorem FrameX.trans {p : Addr} {H1 G1 H2 G2 : Hp} {L1 L2 : Lab} (a : FrameX p H G L H1 G1 L1) (b : FrameX p H1 G1 L1 H2 G2 L2) : FrameX p H G L H2 G2 L2 :=
  ⟨fun c x n h l => by
    obtain ⟨h1, l1, g1⟩ := a.keep c x n h l
    obtain ⟨h2, l2, g2⟩ := b.keep c x n h1 l1
    exact ⟨h2, l2, fun z => g2 (g1 z)⟩, a.le.trans b.le⟩
end
def compLoop (vs : List Nat) (b : MG) (t : MB) (g : MD) : List D → Rho → Option (List D × Rho)
  | [], ρ => some ([], ρ)
  | d :: ds, ρ => (match b d ρ with
    | some ρ1 => (match t ρ1 with
      | some (true, ρ2) => (match g ρ2 with
        | some (x, ρ3) => (match compLoop vs b t g ds (wipeR ρ3 vs) with
          | some (xs, ρ4) => some (x :: xs, ρ4)
          | none => none)
        | none => none)
      | some (false, ρ2) => compLoop vs b t g ds (wipeR ρ2 vs)
      | none => none)
    | none => none)
def fzAt (ρ : Rho) (vs : List Nat) : Bool := vs.all fun i => match ρ[i]? with
  | some (some (.fz _)) => true
  | some (some _) => false
  | _ => true
def oComp (gi : MI) (vs : List Nat) (b : MG) (t : MB) (g : MD) : MO := fun ρ => match gi ρ with
  | some (ds, ρ1) => (match fzAt ρ1 vs && decide (ds.length ≤ sizeLine) with
    | true => (match compLoop vs b t g ds (wipeR ρ1 vs) with
      | some (xs, ρ2) => some (.lst (xs.map .fz), restR ρ1 vs ρ2)
      | none => none)
    | false => none)
  | none => none
def bYes : MB := fun ρ => some (true, ρ)
section
variable {X : Cx} {cl : Cl} {e a b c o tg : Expr} {es rest : List Expr} {pos : Pos}
def STs (X : Cx) (cl : Cl) (ifs : List Expr) (g : MB) : Prop := PTs X ifs (tB' X cl g)
theorem PTs.weak {ifs : List Expr} {t t' : TT} (h : PTs X ifs t) (w : ∀ σ H Q, t' σ H Q → t σ H Q) : PTs X ifs t' := ⟨fun pins s σ H Q I q => h.run pins s σ H Q I (w σ H Q q)⟩
theorem sts_nil : STs X cl [] bYes := PTs.weak pts_nil fun σ H Q ⟨G, L, ρ, k, ρ', hs, hg, q⟩ => by
  cases hg
  exact q H G L hs Frame.refl
theorem sts_one {g : MB} (h : ST X cl c g) : STs X cl [c] g := pts_one h
theorem wipe_eq {σ σ2 : St} {vs T : List Nat} (hT : ∀ i ∈ T, i ∈ vs) (hk : ∀ i, i ∉ T → σ2[i]? = (wipe σ vs)[i]?) (hl : σ2.length = σ.length) : wipe σ2 vs = wipe σ vs := by
  refine List.ext_getElem? fun i => ?_
  rw [wipe_get, wipe_get]
  by_cases h : i ∈ vs
  · rw [if_pos h, if_pos h]
    by_cases z : i < σ.length
    · rw [List.getElem?_eq_getElem z, List.getElem?_eq_getElem (by omega)]
      rfl
    · rw [List.getElem?_eq_none (by omega), List.getElem?_eq_none (by omega)]
  · rw [if_neg h, if_neg h, hk i fun z => h (hT i z), wipe_get, if_neg h]
theorem compLoop_len {vs : List Nat} {b : MG} {t : MB} {g : MD} : ∀ {ds : List D} {ρ ρ' : Rho} {xs : List D}, compLoop vs b t g ds ρ = some (xs, ρ') → xs.length ≤ ds.length
  | [], _, _, _, h => by simp [compLoop] at h; simp [← h.1]
  | d :: ds, ρ, ρ', xs, h => by
    simp only [compLoop] at h
    split at h
    · split at h
      · split at h
        · split at h
          · rename_i e
            cases h
            have := compLoop_len e
            simp; omega
          · cases h
        · cases h
      · have := compLoop_len h
        simp; omega
      · cases h
    · cases h
theorem comp_reads {gi : MI} {vs T : List Nat} {bd : MG} {t : MB} {g : MD} (hT : ∀ i ∈ T, i ∈ vs) {σ : St} {H : Hp} {Q : VK} (h : tO X cl (oComp gi vs bd t g) σ H Q) :
    tLc (tI X cl gi) (tG X cl T bd) (tB' X cl t) (tD X cl g) vs σ H Q := by
  obtain ⟨G, L, ρ, o, ρ', hs, hg, q⟩ := h
  unfold oComp at hg
  split at hg
  · rename_i ds ρ1 e1
    split at hg
    · rename_i z
      obtain ⟨z1, z2⟩ := Bool.and_eq_true_iff.mp z
      have z2 := of_decide_eq_true z2
      split at hg
      · rename_i xs ρ2 e2
        cases hg
        refine ⟨G, L, ρ, ds, ρ1, hs, e1, fun J H1 G1 L1 s1 f1 it p hp => ?_⟩
        have p0 : G1 p = none := by
          cases y : G1 p with
          | none => rfl
          | some x => have := s1.le p x y; rw [hp] at this; cases this
        obtain ⟨L2, s2, f2⟩ := s1.wipe vs
        have l2 : L2 p = none := by
          cases y : L2 p with
          | none => rfl
          | some x => obtain ⟨_, w, hw⟩ := s2.rep.sep p x y; rw [hp] at hw; cases hw
        refine ⟨fun i m Hc => m = ds.length - i ∧ i ≤ ds.length ∧ ∃ Gc Lc ρc acc accD xr, SRep X.K cl (wipe σ vs) Hc Gc Lc ρc ∧ Hc p = some (.lst acc) ∧ RepVs X.K cl Gc acc accD ∧ Lc p = none ∧ Gc p = none ∧ accD.length ≤ i ∧
          compLoop vs bd t g (ds.drop i) ρc = some (xr, ρ2) ∧ accD ++ xr = xs ∧ FrameX p H1 G1 L1 Hc Gc Lc, ⟨ds.length, by simp, Nat.zero_le _, G1, L2, _, [], [], xs, s2.other l2 p0 (fun xs e => by cases e), upd_same, rfl, l2, p0, Nat.le_refl _, by simpa using e2, rfl, ?_⟩, ?_⟩
        · exact ⟨fun b x n hb hl => ⟨by rw [upd_ne n]; exact hb, (f2.keep b x hb hl).2.1, id⟩, Le.refl⟩
        · rintro i m Hc ⟨rfl, hi, Gc, Lc, ρc, acc, accD, xr, sc, hD, ra, lD, gD, ha, ec, ex, fx⟩
          by_cases hlt : i < ds.length
          · refine .inr ?_
            have ed : ds[i]? = some ds[i] := List.getElem?_eq_getElem hlt
            have edrop : ds.drop i = ds[i] :: ds.drop (i + 1) := (List.getElem_cons_drop hlt).symm
            rw [edrop] at ec
            obtain ⟨hgo, hy⟩ := it.go i Hc Gc ds[i] fx.le sc.le sc.rep.imm ed
            refine ⟨hgo, fun Hn => i + 1 ≤ ds.length ∧ ∃ Gc Lc ρc acc accD xr, SRep X.K cl (wipe σ vs) Hn Gc Lc ρc ∧ Hn p = some (.lst acc) ∧ RepVs X.K cl Gc acc accD ∧ Lc p = none ∧ Gc p = none ∧ accD.length ≤ i + 1 ∧
              compLoop vs bd t g (ds.drop (i + 1)) ρc = some (xr, ρ2) ∧ accD ++ xr = xs ∧ FrameX p H1 G1 L1 Hn Gc Lc, fun Hn hn => ⟨ds.length - (i + 1), by omega, rfl, hn⟩, fun x Hy yy => ?_⟩
            obtain ⟨G3, ext, rx⟩ := hy x Hy yy
            obtain ⟨s3, f3⟩ := sc.ext ext
            have d3 := f3.keep p _ hD lD
            simp only [compLoop] at ec
            split at ec
            · rename_i ρ3 e3
              refine ⟨G3, Lc, ρc, ds[i], ρ3, s3, rx, e3, fun σ4 H4 G4 L4 s4 f4 k4 n4 => ?_⟩
              have d4 := f4.keep p _ d3.1 d3.2.1
              have len4 : σ4.length = σ.length := by rw [n4, wipe_length]
              have we := wipe_eq hT k4 len4
              refine ⟨we, ?_⟩
              split at ec
              · rename_i ρ5 e5
                split at ec
                · rename_i d6 ρ6 e6
                  split at ec
                  · rename_i xs7 ρ7 e7
                    cases ec
                    refine ⟨G4, L4, ρ3, true, ρ5, s4, e5, fun H5 G5 L5 s5 f5 => iteT ⟨G5, L5, ρ5, d6, ρ6, s5, e6, fun y H6 G6 L6 s6 r6 f6 => ?_⟩⟩
                    have d5 := f5.keep p _ d4.1 d4.2.1
                    have d6' := f6.keep p _ d5.1 d5.2.1
                    have g6 : G6 p = none := d6'.2.2 (d5.2.2 (d4.2.2 (d3.2.2 gD)))
                    obtain ⟨L7, s7, f7⟩ := s6.wipe vs
                    have d7 := f7.keep p _ d6'.1 d6'.2.1
                    rw [we] at s7
                    have rA : RepVs X.K cl G6 acc accD := (((ra.mono f3.le).mono f4.le).mono f5.le).mono f6.le
                    refine ⟨acc, d6'.1, by rw [ra.length]; omega, hlt, G6, L7, _, acc ++ [y], accD ++ [d6], xs7, s7.other d7.2.1 g6 (fun xs e => by cases e), upd_same, rA.append ⟨y, [], rfl, r6, rfl⟩, d7.2.1, g6, by simp; omega, e7, by rw [← ex]; simp, ?_⟩
                    refine fx.trans ((((f3.trans f4).trans f5).trans f6).trans f7 |>.x p |>.trans ⟨fun b x n hb hl => ⟨by rw [upd_ne n]; exact hb, hl, id⟩, Le.refl⟩)
                  · cases ec
                · cases ec
              · rename_i ρ5 e5
                refine ⟨G4, L4, ρ3, false, ρ5, s4, e5, fun H5 G5 L5 s5 f5 => iteF ?_⟩
                have d5 := f5.keep p _ d4.1 d4.2.1
                obtain ⟨L7, s7, f7⟩ := s5.wipe vs
                have d7 := f7.keep p _ d5.1 d5.2.1
                rw [we] at s7
                exact ⟨hlt, G5, L7, _, acc, accD, xr, s7, d5.1, ((ra.mono f3.le).mono f4.le).mono f5.le, d7.2.1, d5.2.2 (d4.2.2 (d3.2.2 gD)), by omega, ec, ex, fx.trans ((((f3.trans f4).trans f5).trans f7).x p)⟩
              · cases ec
            · cases ec
          · have hi2 : i = ds.length := by omega
            subst hi2
            refine .inl ⟨it.stop _ Hc (fx.le.trans sc.le) (Nat.le_refl _), ?_⟩
            simp only [List.drop_length, compLoop] at ec
            cases ec
            rw [List.append_nil] at ex
            subst ex
            have hfz : ∀ i ∈ vs, ∀ o, ρ1[i]? = some (some o) → ∃ d, o = .fz d := fun i hi o e => by
              have := List.all_eq_true.mp z1 i hi
              rw [e] at this
              cases o <;> first | exact ⟨_, rfl⟩ | cases this
            have su := s1.unwipe hfz sc fx.le
            have sa := su.adopt hD lD gD ra
            refine q _ Hc Gc _ sa (f1.trans ⟨fun b x hb hl => ?_, fx.le⟩)
            have n : b ≠ p := fun z => by rw [z, hp] at hb; cases hb
            obtain ⟨a1, a2, a3⟩ := fx.keep b x n hb hl
            refine ⟨a1, ?_, a3⟩
            unfold updL
            rw [if_neg n]
            exact a2
      · cases hg
    · cases hg
  · cases hg
theorem so_comp {elt iter : Expr} {ifs : List Expr} {scope : Scope} {own : List (Str × Nat)} {gi : MI} {T : List Nat} {bd : MG} {t : MB} {g : MD} (hi : SI X cl tg iter gi) (ok : BlkOk X.N X.env.scope scope own)
    (hb : ∀ (s : Shared) (H : Hp) (C : Addr) (cs : List (Str × Addr)) (fp : List Addr), SG (X.blk s H scope (compEnvC scope cs C X.env) fp) cl tg T bd)
    (ht : ∀ (s : Shared) (H : Hp) (C : Addr) (cs : List (Str × Addr)) (fp : List Addr), STs (X.blk s H scope (compEnvC scope cs C X.env) fp) cl ifs t)
    (he : ∀ (s : Shared) (H : Hp) (C : Addr) (cs : List (Str × Addr)) (fp : List Addr), SD (X.blk s H scope (compEnvC scope cs C X.env) fp) cl elt g)
    (hN : X.N.Nodup) (hT : ∀ i ∈ T, i ∈ own.map (·.2) := by decide) (hc : X.calm = true := by rfl) (hs : ∀ x, foldedSetIterable iter X.env x = pure x := by intro _; rfl) :
    SO X cl (.ListComp elt [⟨tg, iter, ifs, 0⟩] scope pos) (oComp gi (own.map (·.2)) bd t g) :=
  PE.weak (pe_lc (wi := tI X cl gi) (g := tG X cl T bd) (tt := tB' X cl t) (te := tD X cl g) hc hN hi ok hb ht he hs) fun σ H Q h => comp_reads hT h
end
end PI
set_option Elab.async false
set_option linter.all false
set_option maxRecDepth 100000
set_option maxHeartbeats 1000000
set_option autoImplicit false
/-! PI10: statements. -/
namespace PI
open PySem PySem.Spec L2

/-! ### owned trees changed in place -/
section
variable {K : PySem.W.Frag} {cl : Cl} {G G' H H' : Hp} {L L' : Lab} {σ σ' τ : St} {ρ ρ' ω : Rho}
/-- a node's children, where the node itself changes -/
theorem RepOs.kids (hG : Le G G') {p : Path} (hm : ∀ a j r, L a = some (p ++ j :: r) → L' a = some (p ++ j :: r) ∧ ∀ x, H a = some x → H' a = some x) :
    ∀ (os : List O) (vs : List V) (i : Nat), RepOs K cl G H L p i vs os → RepOs K cl G' H' L' p i vs os
  | [], _, _, r => r
  | o :: os, _, i, ⟨v, ws, e, r, rs⟩ => ⟨v, ws, e, by
      have := RepO.move (L := L) (H := H) (L' := L') (H' := H') (p := p ++ [i]) (p' := p ++ [i]) hG (fun a q l => by
        have l2 : L a = some (p ++ i :: q) := by rw [l]; simp
        have := hm a i q l2
        simpa using this) o v [] (by simpa using r)
      simpa using this, RepOs.kids hG hm os ws (i + 1) rs⟩
/-- .. one child replaced -/
theorem RepOs.kid (hG : Le G G') {p : Path} {j0 : Nat} {v0 : V} {o0 : O} (hm : ∀ a j r, j ≠ j0 → L a = some (p ++ j :: r) → L' a = some (p ++ j :: r) ∧ ∀ x, H a = some x → H' a = some x) (h0 : RepO K cl G' H' L' (p ++ [j0]) v0 o0) :
    ∀ (os : List O) (vs : List V) (i k : Nat), i + k = j0 → RepOs K cl G H L p i vs os → RepOs K cl G' H' L' p i (vs.set k v0) (os.set k o0)
  | [], _, _, _, _, r => by cases r; rfl
  | o :: os, _, i, 0, e0, ⟨v, ws, e, r, rs⟩ => by
    subst e
    refine ⟨v0, ws, rfl, by rw [show i = j0 by omega]; exact h0, ?_⟩
    -- the rest: all later than j0
    have : ∀ (os : List O) (vs : List V) (i : Nat), j0 < i → RepOs K cl G H L p i vs os → RepOs K cl G' H' L' p i vs os := by
      intro os
      induction os with
      | nil => intro vs i _ r; exact r
      | cons o os ih =>
        intro vs i hi ⟨v, ws, e, r, rs⟩
        refine ⟨v, ws, e, ?_, ih ws (i + 1) (by omega) rs⟩
        have := RepO.move (L := L) (H := H) (L' := L') (H' := H') (p := p ++ [i]) (p' := p ++ [i]) hG (fun a q l => by
          have l2 : L a = some (p ++ i :: q) := by rw [l]; simp
          have := hm a i q (by omega) l2
          simpa using this) o v [] (by simpa using r)
        simpa using this
    exact this os ws (i + 1) (by omega) rs
  | o :: os, _, i, k + 1, e0, ⟨v, ws, e, r, rs⟩ => by
    subst e
    refine ⟨v, _, rfl, ?_, RepOs.kid hG hm h0 os ws (i + 1) k (by omega) rs⟩
    have := RepO.move (L := L) (H := H) (L' := L') (H' := H') (p := p ++ [i]) (p' := p ++ [i]) hG (fun a q l => by
      have l2 : L a = some (p ++ i :: q) := by rw [l]; simp
      have := hm a i q (by omega) l2
      simpa using this) o v [] (by simpa using r)
    simpa using this
theorem RepOs.length : ∀ {os : List O} {vs : List V} {p : Path} {i : Nat}, RepOs K cl G H L p i vs os → vs.length = os.length
  | [], _, _, _, r => by cases r; rfl
  | o :: os, _, _, _, ⟨v, ws, e, _, r⟩ => by rw [e]; simp [RepOs.length r]
theorem RepOs.snoc {p : Path} {v : V} {o : O} : ∀ (os : List O) (vs : List V) (i : Nat), RepOs K cl G H L p i vs os → RepO K cl G H L (p ++ [i + os.length]) v o → RepOs K cl G H L p i (vs ++ [v]) (os ++ [o])
  | [], vs, i, r, h => by
    cases r
    exact ⟨v, [], rfl, by simpa using h, rfl⟩
  | x :: os, _, i, ⟨w, ws, e, r, rs⟩, h => by
    subst e
    refine ⟨w, _, rfl, r, RepOs.snoc os ws (i + 1) rs ?_⟩
    have : i + 1 + os.length = i + (x :: os).length := by simp; omega
    rw [this]
    exact h

/-- labels where the temporary root n goes under the slot i at the place j (what stood there is dropped) -/
def graftL (L : Lab) (n i j : Nat) : Lab := fun b => match L b with
  | some (m :: r) => if m = n then some (i :: j :: r) else if m = i then (match r with
    | j' :: _ => if j' = j then none else some (m :: r)
    | [] => some (m :: r)) else some (m :: r)
  | _ => none
theorem graft_tmp {n i j : Nat} {b : Addr} {r : Path} (l : L b = some (n :: r)) : graftL L n i j b = some (i :: j :: r) := by
  unfold graftL
  rw [l]
  show (if n = n then _ else _) = _
  rw [if_pos rfl]
theorem graft_other {n i j m : Nat} {b : Addr} {r : Path} (l : L b = some (m :: r)) (h1 : m ≠ n) (h2 : m ≠ i) : graftL L n i j b = some (m :: r) := by
  unfold graftL
  rw [l]
  show (if m = n then _ else if m = i then _ else _) = _
  rw [if_neg h1, if_neg h2]
theorem graft_root {n i j : Nat} {b : Addr} (l : L b = some [i]) (h1 : i ≠ n) : graftL L n i j b = some [i] := by
  unfold graftL
  rw [l]
  show (if i = n then _ else if i = i then _ else _) = _
  rw [if_neg h1, if_pos rfl]
theorem graft_kid {n i j j' : Nat} {b : Addr} {r : Path} (l : L b = some (i :: j' :: r)) (h1 : i ≠ n) (h2 : j' ≠ j) : graftL L n i j b = some (i :: j' :: r) := by
  unfold graftL
  rw [l]
  show (if i = n then _ else if i = i then (if j' = j then _ else _) else _) = _
  rw [if_neg h1, if_pos rfl, if_neg h2]
theorem graft_some {n i j : Nat} {b : Addr} {p : Path} (e : graftL L n i j b = some p) : ∃ m r, L b = some (m :: r) ∧ ((m = n ∧ p = i :: j :: r) ∨ (m ≠ n ∧ p = m :: r)) := by
  unfold graftL at e
  split at e
  · rename_i m r l
    split at e
    · rename_i z
      cases e
      exact ⟨m, r, l, .inl ⟨z, rfl⟩⟩
    · rename_i z
      split at e
      · split at e
        · split at e
          · cases e
          · cases e; exact ⟨_, _, l, .inr ⟨z, rfl⟩⟩
        · cases e; exact ⟨_, _, l, .inr ⟨z, rfl⟩⟩
      · cases e; exact ⟨_, _, l, .inr ⟨z, rfl⟩⟩
  · cases e
/-- the temporary root goes under a slot's node, whose object changes -/
theorem SRep.graft {v : V} {o : O} (h : SRep K cl (σ ++ [some v]) H G L (ρ ++ [some o])) {i j : Nat} {a : Addr} {ho : HO} (nt : ∀ xs, ho ≠ .tup xs) {t : O} (hi : i < ρ.length) (la : L a = some [i]) (hsi : σ[i]? = some (some (.ref a)))
    (hold : ∃ t0, ρ[i]? = some (some t0))
    (r : RepO K cl G (upd H a ho) (graftL L ρ.length i j) [i] (.ref a) t) : SRep K cl σ (upd H a ho) G (graftL L ρ.length i j) (ρ.set i (some t)) ∧ Frame H G L (upd H a ho) G (graftL L ρ.length i j) := by
  have hl : σ.length = ρ.length := by simpa using h.len
  have ga : G a = none := (h.rep.sep a _ la).1
  have hset : ∀ (m : Nat) (o' : O), (ρ.set i (some t))[m]? = some (some o') → (m = i ∧ o' = t) ∨ (m ≠ i ∧ ρ[m]? = some (some o')) := fun m o' e => by
    by_cases z : m = i
    · subst z
      rw [List.getElem?_set_self hi] at e
      cases e
      exact .inl ⟨rfl, rfl⟩
    · rw [List.getElem?_set_ne (Ne.symm z)] at e
      exact .inr ⟨z, e⟩
  refine ⟨⟨by simp [hl], fun m o' e => ?_, ⟨fun b x hb => ?_, fun b p l => ?_, fun b xs e => ?_, fun m v' o' e => ?_, fun b p l => ?_⟩⟩, ⟨fun b x e l => ?_, Le.refl⟩⟩
  · rcases hset m o' e with ⟨rfl, _⟩ | ⟨_, e⟩
    · exact ⟨_, hsi⟩
    · have hm := (List.getElem?_eq_some_iff.mp e).1
      obtain ⟨w, ew⟩ := h.all m o' (by rw [List.getElem?_append_left hm]; exact e)
      exact ⟨w, by rw [List.getElem?_append_left (by omega)] at ew; exact ew⟩
  · have : b ≠ a := fun z => by rw [z, ga] at hb; cases hb
    rw [upd_ne this]
    exact h.rep.ge b x hb
  · obtain ⟨m, r', l0, _⟩ := graft_some l
    obtain ⟨g, x, hx⟩ := h.rep.sep b _ l0
    refine ⟨g, ?_⟩
    by_cases z : b = a
    · subst z; exact ⟨_, upd_same⟩
    · exact ⟨x, by rw [upd_ne z]; exact hx⟩
  · by_cases z : b = a
    · subst z
      rw [upd_same] at e
      exact absurd (Option.some.inj e) (nt xs)
    · rw [upd_ne z] at e
      exact h.rep.imm b xs e
  · obtain ⟨e1, e2⟩ := rootsOf_some.mp e
    rcases hset m o' e2 with ⟨rfl, rfl⟩ | ⟨n1, e3⟩
    · rw [hsi] at e1
      cases e1
      exact r
    · have hm := (List.getElem?_eq_some_iff.mp e3).1
      have r0 := h.rep.rep m v' o' (rootsOf_some.mpr ⟨by rw [List.getElem?_append_left (by omega)]; exact e1, by rw [List.getElem?_append_left hm]; exact e3⟩)
      have := RepO.move (L := L) (H := H) (L' := graftL L ρ.length i j) (H' := upd H a ho) (G' := G) (p := [m]) (p' := [m]) Le.refl (fun b q l => ⟨graft_other l (by omega) n1, fun x hx => by
        have : b ≠ a := fun z => by rw [z, la] at l; cases l; exact n1 rfl
        rw [upd_ne this]; exact hx⟩) o' v' [] (by simpa using r0)
      simpa using this
  · obtain ⟨m, r', l0, z⟩ := graft_some l
    rcases z with ⟨rfl, rfl⟩ | ⟨z, rfl⟩
    · refine ⟨i, j :: r', rfl, ?_⟩
      rw [rootsOf_some.mpr ⟨hsi, List.getElem?_set_self hi⟩]
      rfl
    · refine ⟨m, r', rfl, ?_⟩
      obtain ⟨m', r2, e3, e4⟩ := h.rep.own b _ l0
      cases e3
      obtain ⟨⟨w, o'⟩, e5⟩ := Option.isSome_iff_exists.mp e4
      obtain ⟨e6, e7⟩ := rootsOf_some.mp e5
      have hm : m < ρ.length := by
        have := (List.getElem?_eq_some_iff.mp e7).1
        simp at this
        omega
      rw [List.getElem?_append_left (by omega)] at e6
      rw [List.getElem?_append_left hm] at e7
      by_cases q : m = i
      · subst q
        rw [rootsOf_some.mpr ⟨hsi, List.getElem?_set_self hi⟩]
        rfl
      · rw [rootsOf_some.mpr ⟨e6, by rw [List.getElem?_set_ne (Ne.symm q)]; exact e7⟩]
        rfl
  · have : b ≠ a := fun z => by rw [z, la] at l; cases l
    refine ⟨by rw [upd_ne this]; exact e, ?_, id⟩
    unfold graftL
    rw [l]
/-- a slot that owns a list -/
theorem SRep.lst_at (h : SRep K cl σ H G L ρ) {i : Nat} {os : List O} (e : ρ[i]? = some (some (.lst os))) : ∃ a vs, σ[i]? = some (some (.ref a)) ∧ L a = some [i] ∧ H a = some (.lst vs) ∧ RepOs K cl G H L [i] 0 vs os := by
  obtain ⟨v, ev⟩ := h.all i _ e
  obtain ⟨a, vs, rfl, l, ha, r⟩ := h.rep.rep i v _ (rootsOf_some.mpr ⟨ev, e⟩)
  exact ⟨a, vs, ev, l, ha, r⟩
theorem SRep.dct_at (h : SRep K cl σ H G L ρ) {i : Nat} {ks : List Key} {os : List O} (e : ρ[i]? = some (some (.dct ks os))) : ∃ a kvs, σ[i]? = some (some (.ref a)) ∧ L a = some [i] ∧ H a = some (.dK kvs) ∧ kvs.map (·.1) = ks ∧ RepOs K cl G H L [i] 0 (kvs.map (·.2)) os := by
  obtain ⟨v, ev⟩ := h.all i _ e
  obtain ⟨a, kvs, rfl, l, ha, k, r⟩ := h.rep.rep i v _ (rootsOf_some.mpr ⟨ev, e⟩)
  exact ⟨a, kvs, ev, l, ha, k, r⟩
theorem SRep.obj_at (h : SRep K cl σ H G L ρ) {i c : Nat} {ns : List Str} {os : List O} (e : ρ[i]? = some (some (.obj c ns os))) : ∃ a dx fs, σ[i]? = some (some (.ref a)) ∧ L a = some [i] ∧ H a = some (.ins (cl c) dx fs) ∧ fs.map (·.1) = ns ∧ RepOs K cl G H L [i] 0 (fs.map (·.2)) os := by
  obtain ⟨v, ev⟩ := h.all i _ e
  obtain ⟨a, dx, fs, rfl, l, ha, k, r⟩ := h.rep.rep i v _ (rootsOf_some.mpr ⟨ev, e⟩)
  exact ⟨a, dx, fs, ev, l, ha, k, r⟩
/-- an item of an owned list replaced by the temporary root -/
theorem SRep.setItem {v : V} {o : O} (h : SRep K cl (σ ++ [some v]) H G L (ρ ++ [some o])) {i k : Nat} {os : List O} (e : ρ[i]? = some (some (.lst os))) :
    ∃ a vs, σ[i]? = some (some (.ref a)) ∧ H a = some (.lst vs) ∧ vs.length = os.length ∧ ∃ L', SRep K cl σ (upd H a (.lst (vs.set k v))) G L' (ρ.set i (some (.lst (os.set k o)))) ∧ Frame H G L (upd H a (.lst (vs.set k v))) G L' := by
  have hl : σ.length = ρ.length := by simpa using h.len
  have hi := (List.getElem?_eq_some_iff.mp e).1
  obtain ⟨a, vs, e1, la, ha, r⟩ := h.lst_at (i := i) (os := os) (by rw [List.getElem?_append_left hi]; exact e)
  rw [List.getElem?_append_left (by omega)] at e1
  have rt := h.rep.rep ρ.length v o (rootsOf_some.mpr ⟨by rw [List.getElem?_append_right (by omega), show ρ.length - σ.length = 0 by omega]; rfl, by rw [List.getElem?_append_right (by omega), Nat.sub_self]; rfl⟩)
  have hne : ∀ b q, L b = some (i :: q) → q ≠ [] → b ≠ a := fun b q l n z => by rw [z, la] at l; cases l; exact n rfl
  have r1 : RepO K cl G (upd H a (.lst (vs.set k v))) (graftL L ρ.length i k) ([i] ++ [k]) v o := by
    have := RepO.move (L := L) (H := H) (L' := graftL L ρ.length i k) (H' := upd H a (.lst (vs.set k v))) (G' := G) (p := [ρ.length]) (p' := [i] ++ [k]) Le.refl (fun b q l => ⟨graft_tmp l, fun x hx => by
      have : b ≠ a := fun z => by rw [z, la] at l; cases l; omega
      rw [upd_ne this]; exact hx⟩) o v [] (by simpa using rt)
    simpa using this
  have r2 := RepOs.kid (G' := G) (H' := upd H a (.lst (vs.set k v))) (L' := graftL L ρ.length i k) (p := [i]) (j0 := k) Le.refl (fun b j q n l => ⟨graft_kid l (by omega) n, fun x hx => by rw [upd_ne (hne b _ l (by simp))]; exact hx⟩) r1 os vs 0 k (by omega) r
  obtain ⟨s, f⟩ := h.graft (ho := .lst (vs.set k v)) (t := .lst (os.set k o)) (fun xs z => by cases z) hi la e1 ⟨_, e⟩ ⟨a, _, rfl, graft_root la (by omega), upd_same, r2⟩
  exact ⟨a, vs, e1, ha, RepOs.length r, _, s, f⟩
/-- appended to an owned list -/
theorem SRep.append {v : V} {o : O} (h : SRep K cl (σ ++ [some v]) H G L (ρ ++ [some o])) {i : Nat} {os : List O} (e : ρ[i]? = some (some (.lst os))) :
    ∃ a vs, σ[i]? = some (some (.ref a)) ∧ H a = some (.lst vs) ∧ vs.length = os.length ∧ ∃ L', SRep K cl σ (upd H a (.lst (vs ++ [v]))) G L' (ρ.set i (some (.lst (os ++ [o])))) ∧ Frame H G L (upd H a (.lst (vs ++ [v]))) G L' := by
  have hl : σ.length = ρ.length := by simpa using h.len
  have hi := (List.getElem?_eq_some_iff.mp e).1
  obtain ⟨a, vs, e1, la, ha, r⟩ := h.lst_at (i := i) (os := os) (by rw [List.getElem?_append_left hi]; exact e)
  rw [List.getElem?_append_left (by omega)] at e1
  have rt := h.rep.rep ρ.length v o (rootsOf_some.mpr ⟨by rw [List.getElem?_append_right (by omega), show ρ.length - σ.length = 0 by omega]; rfl, by rw [List.getElem?_append_right (by omega), Nat.sub_self]; rfl⟩)
  have hne : ∀ b q, L b = some (i :: q) → q ≠ [] → b ≠ a := fun b q l n z => by rw [z, la] at l; cases l; exact n rfl
  have r1 : RepO K cl G (upd H a (.lst (vs ++ [v]))) (graftL L ρ.length i os.length) ([i] ++ [0 + os.length]) v o := by
    have := RepO.move (L := L) (H := H) (L' := graftL L ρ.length i os.length) (H' := upd H a (.lst (vs ++ [v]))) (G' := G) (p := [ρ.length]) (p' := [i] ++ [0 + os.length]) Le.refl (fun b q l => ⟨by rw [Nat.zero_add]; exact graft_tmp l, fun x hx => by
      have : b ≠ a := fun z => by rw [z, la] at l; cases l; omega
      rw [upd_ne this]; exact hx⟩) o v [] (by simpa using rt)
    simpa using this
  -- no node stands under the new place yet
  have hbig : ∀ (os : List O) (vs : List V) (i0 : Nat), RepOs K cl G H L [i] i0 vs os → RepOs K cl G (upd H a (.lst (vs ++ [v]))) L [i] i0 vs os := fun os vs i0 r =>
    RepOs.kids Le.refl (fun b j q l => ⟨l, fun x hx => by rw [upd_ne (hne b _ l (by simp))]; exact hx⟩) os vs i0 r
  have r2 : RepOs K cl G (upd H a (.lst (vs ++ [v]))) (graftL L ρ.length i os.length) [i] 0 vs os := by
    have : ∀ (xs : List O) (ws : List V) (i0 : Nat), i0 + xs.length = os.length → RepOs K cl G H L [i] i0 ws xs → RepOs K cl G (upd H a (.lst (vs ++ [v]))) (graftL L ρ.length i os.length) [i] i0 ws xs := by
      intro xs
      induction xs with
      | nil => intro ws i0 _ r; exact r
      | cons x xs ih =>
        intro ws i0 hn ⟨w, ws', e, r, rs⟩
        simp only [List.length_cons] at hn
        refine ⟨w, ws', e, ?_, ih ws' (i0 + 1) (by omega) rs⟩
        have := RepO.move (L := L) (H := H) (L' := graftL L ρ.length i os.length) (H' := upd H a (.lst (vs ++ [v]))) (G' := G) (p := [i] ++ [i0]) (p' := [i] ++ [i0]) Le.refl (fun b q l => ⟨graft_kid l (by omega) (by omega), fun y hy => by rw [upd_ne (hne b _ l (by simp))]; exact hy⟩) x w [] (by simpa using r)
        simpa using this
    exact this os vs 0 (by omega) r
  obtain ⟨s, f⟩ := h.graft (ho := .lst (vs ++ [v])) (t := .lst (os ++ [o])) (fun xs z => by cases z) hi la e1 ⟨_, e⟩ ⟨a, _, rfl, graft_root la (by omega), upd_same, RepOs.snoc os vs 0 r2 r1⟩
  exact ⟨a, vs, e1, ha, RepOs.length r, _, s, f⟩
end

/-! ### statements -/
inductive Fl where
  | nx
  | bk
  | ct
  | rt (o : O)
abbrev MS := Rho → Option (Fl × Rho)
def Kp (pr : List Nat) (σ σ' : St) : Prop := ∀ i ∈ pr, σ'[i]? = σ[i]?
theorem Kp.refl {pr : List Nat} {σ : St} : Kp pr σ σ := fun _ _ => rfl
theorem Kp.trans {pr : List Nat} {σ σ1 σ2 : St} (a : Kp pr σ σ1) (b : Kp pr σ1 σ2) : Kp pr σ σ2 := fun i hi => (b i hi).trans (a i hi)
section
variable (X : Cx) (cl : Cl)
def Goal (pr : List Nat) (D : Ends) (σ : St) (H G : Hp) (L : Lab) (ρ' : Rho) : Fl → Prop
  | .nx => ∀ σ' H' G' L', SRep X.K cl σ' H' G' L' ρ' → Frame H G L H' G' L' → Kp pr σ σ' → D.nx σ' H'
  | .bk => ∀ σ' H' G' L', SRep X.K cl σ' H' G' L' ρ' → Frame H G L H' G' L' → Kp pr σ σ' → D.bk σ' H'
  | .ct => ∀ σ' H' G' L', SRep X.K cl σ' H' G' L' ρ' → Frame H G L H' G' L' → Kp pr σ σ' → D.ct σ' H'
  | .rt o => ∀ v σ' H' G' L', SRep X.K cl (σ' ++ [some v]) H' G' L' (ρ' ++ [some o]) → Frame H G L H' G' L' → Kp pr σ σ' → D.rt v H'
def tS (pr : List Nat) (g : MS) : TS := fun D σ H => ∃ G L ρ fl ρ', SRep X.K cl σ H G L ρ ∧ g ρ = some (fl, ρ') ∧ Goal X cl pr D σ H G L ρ' fl
def SS (pr : List Nat) (s : Stmt) (g : MS) : Prop := PS X s (tS X cl pr g)
def SSs (pr : List Nat) (s : List Stmt) (g : MS) : Prop := PSs X s (tS X cl pr g)
end
section
variable {X : Cx} {cl : Cl} {e a b c o tg : Expr} {es rest : List Expr} {pos pos' : Pos} {st : Stmt} {sts : List Stmt} {pr : List Nat}
theorem PS.weak {t t' : TS} (h : PS X st t) (w : ∀ D σ H, t' D σ H → t D σ H) : PS X st t' := ⟨fun pins s σ H D I q => h.run pins s σ H D I (w D σ H q)⟩
theorem PSs.weak {t t' : TS} (h : PSs X sts t) (w : ∀ D σ H, t' D σ H → t D σ H) : PSs X sts t' := ⟨fun pins s σ H D I q => h.run pins s σ H D I (w D σ H q)⟩
theorem Goal.step {D : Ends} {σ σ1 : St} {H G H1 G1 : Hp} {L L1 : Lab} {ρ' : Rho} (f : Frame H G L H1 G1 L1) (k : Kp pr σ σ1) : ∀ {fl : Fl}, Goal X cl pr D σ H G L ρ' fl → Goal X cl pr D σ1 H1 G1 L1 ρ' fl
  | .nx, h => fun σ' H' G' L' s f' k' => h σ' H' G' L' s (f.trans f') (k.trans k')
  | .bk, h => fun σ' H' G' L' s f' k' => h σ' H' G' L' s (f.trans f') (k.trans k')
  | .ct, h => fun σ' H' G' L' s f' k' => h σ' H' G' L' s (f.trans f') (k.trans k')
  | .rt o, h => fun v σ' H' G' L' s f' k' => h v σ' H' G' L' s (f.trans f') (k.trans k')
def sSkip : MS := fun ρ => some (.nx, ρ)
theorem ss_nil : SSs X cl pr [] sSkip := PSs.weak pss_nil fun D σ H ⟨G, L, ρ, fl, ρ', hs, hg, q⟩ => by
  cases hg
  exact q σ H G L hs Frame.refl Kp.refl
theorem ss_pass : SS X cl pr (.Pass pos) sSkip := PS.weak ps_pass fun D σ H ⟨G, L, ρ, fl, ρ', hs, hg, q⟩ => by
  cases hg
  exact q σ H G L hs Frame.refl Kp.refl
def sSeq (g h : MS) : MS := fun ρ => match g ρ with
  | some (.nx, ρ1) => h ρ1
  | some (fl, ρ1) => some (fl, ρ1)
  | none => none
theorem ss_cons {g h : MS} (h1 : SS X cl pr st g) (h2 : SSs X cl pr sts h) : SSs X cl pr (st :: sts) (sSeq g h) := PSs.weak (pss_cons h1 h2) fun D σ H ⟨G, L, ρ, fl, ρ', hs, hg, q⟩ => by
  unfold sSeq at hg
  split at hg
  · rename_i ρ1 e1
    exact ⟨G, L, ρ, .nx, ρ1, hs, e1, fun σ1 H1 G1 L1 s1 f1 k1 => ⟨G1, L1, ρ1, fl, ρ', s1, hg, q.step f1 k1⟩⟩
  · rename_i fl' ρ1 n e1
    cases hg
    refine ⟨G, L, ρ, fl, ρ', hs, e1, ?_⟩
    cases fl with
    | nx => exact (n rfl).elim
    | bk => exact q
    | ct => exact q
    | rt o => exact q
  · cases hg
theorem ss_one {g : MS} (h1 : SS X cl pr st g) : SSs X cl pr [st] g := PSs.weak (pss_one h1) fun _ _ _ h => h
/-- x = e -/
def sAsg (i : Nat) (g : MO) : MS := fun ρ => match g ρ with
  | some (o, ρ1) => (match decide (i < ρ1.length) with
    | true => some (.nx, ρ1.set i (some o))
    | false => none)
  | none => none
theorem asg_reads {i : Nat} {g : MO} (hp : i ∉ pr) {D : Ends} {σ : St} {H : Hp} (h : tS X cl pr (sAsg i g) D σ H) : tO X cl g σ H fun x H1 => gName i x σ H1 D.nx := by
  obtain ⟨G, L, ρ, fl, ρ', hs, hg, q⟩ := h
  unfold sAsg at hg
  split at hg
  · rename_i o ρ1 e1
    split at hg
    · rename_i z
      cases hg
      refine ⟨G, L, ρ, o, ρ1, hs, e1, fun v H1 G1 L1 s1 f1 => ?_⟩
      obtain ⟨L2, s2, f2⟩ := s1.store (of_decide_eq_true z)
      exact q _ H1 G1 L2 s2 (f1.trans f2) (fun j hj => by rw [List.getElem?_set_ne]; intro z; subst z; exact hp hj)
    · cases hg
  · cases hg
theorem ss_set (i : Nat) {x : Str} {g : MO} (he : SO X cl e g) (hN : X.N.Nodup) (hi : X.N[i]? = some x := by rfl) (hx : Loc X.env.scope x := by first | exact Or.inl rfl | exact Or.inr rfl) (hp : i ∉ pr := by decide) (hs : swapsWith e (some (.Name x pos')) pos.line X.env = pure false := by rfl) (hf : X.fn x = true ∨ X.env.scope.names.lookup x = some .local := by first | exact .inl rfl | exact .inr rfl | assumption) :
    SS X cl pr (.Assign [.Name x pos'] e pos) (sAsg i g) := PS.weak (ps_set hN hi hx he hs hf) fun D σ H h => asg_reads hp h
/-- x = [.. for ..] on one line -/
theorem ss_setComp (i : Nat) {x : Str} {elt iter : Expr} {ifs : List Expr} {scope : Scope} {own : List (Str × Nat)} {gi : MI} {T : List Nat} {bd : MG} {t : MB} {g : MD} {cpos : Pos} (hi : SI X cl tg iter gi) (ok : BlkOk X.N X.env.scope scope own)
    (hb : ∀ (s : Shared) (H : Hp) (C : Addr) (cs : List (Str × Addr)) (fp : List Addr), SG (X.blk s H scope (compEnvC scope cs C X.env) fp) cl tg T bd)
    (ht : ∀ (s : Shared) (H : Hp) (C : Addr) (cs : List (Str × Addr)) (fp : List Addr), STs (X.blk s H scope (compEnvC scope cs C X.env) fp) cl ifs t)
    (he : ∀ (s : Shared) (H : Hp) (C : Addr) (cs : List (Str × Addr)) (fp : List Addr), SD (X.blk s H scope (compEnvC scope cs C X.env) fp) cl elt g)
    (hN : X.N.Nodup) (hy : X.N[i]? = some x := by rfl) (hyl : X.env.scope.names.lookup x = some .local := by rfl) (hp : i ∉ pr := by decide) (hsw : swapsWith (.ListComp elt [⟨tg, iter, ifs, 0⟩] scope cpos) (some (.Name x pos')) pos.line X.env = pure true := by exact sw_true rfl rfl rfl (by decide +kernel))
    (hT : ∀ i ∈ T, i ∈ own.map (·.2) := by decide) (hc : X.calm = true := by rfl) (hs : ∀ x, foldedSetIterable iter X.env x = pure x := by intro _; rfl) :
    SS X cl pr (.Assign [.Name x pos'] (.ListComp elt [⟨tg, iter, ifs, 0⟩] scope cpos) pos) (sAsg i (oComp gi (own.map (·.2)) bd t g)) :=
  PS.weak (ps_setLc (wi := tI X cl gi) (g := tG X cl T bd) (tt := tB' X cl t) (te := tD X cl g) hc hN hy hyl hsw hi ok hb ht he hs) fun D σ H h => comp_reads hT (asg_reads hp h)
/-- targets = e -/
def sUnp (g : MD) (b : MG) : MS := fun ρ => match g ρ with
  | some (d, ρ1) => (match b d ρ1 with
    | some ρ2 => some (.nx, ρ2)
    | none => none)
  | none => none
theorem ss_unp {T : List Nat} {g : MD} {b : MG} (he : SD X cl e g) (hg : SG X cl tg T b) (hp : ∀ i ∈ T, i ∉ pr := by decide) (hs : swapsWithSole [tg] e pos.line X.env = pure false := by rfl) (hw : swappedStores [tg] e X.env = pure none := by rfl) (h1 : (assignEach [tg] X.env).map (·.2) = [assign tg X.env] := by rfl) :
    SS X cl pr (.Assign [tg] e pos) (sUnp g b) := PS.weak (ps_asg he hg hs hw h1) fun D σ H ⟨G, L, ρ, fl, ρ', hs, hg, q⟩ => by
  unfold sUnp at hg
  split at hg
  · rename_i d ρ1 e1
    split at hg
    · rename_i ρ2 e2
      cases hg
      refine ⟨G, L, ρ, d, ρ1, hs, e1, fun v H1 G1 L1 s1 r1 f1 => ⟨G1, L1, ρ1, d, _, s1, r1, e2, fun σ2 H2 G2 L2 s2 f2 k2 n2 => ?_⟩⟩
      exact q _ H2 G2 L2 s2 (f1.trans f2) fun j hj => k2 j fun z => hp j z hj
    · cases hg
  · cases hg
/-- return e -/
def sRet (g : MO) : MS := fun ρ => match g ρ with
  | some (o, ρ1) => some (.rt o, ρ1)
  | none => none
theorem ss_ret {g : MO} (he : SO X cl e g) : SS X cl pr (.Return (some e) pos) (sRet g) := PS.weak (ps_ret he) fun D σ H ⟨G, L, ρ, fl, ρ', hs, hg, q⟩ => by
  unfold sRet at hg
  split at hg
  · rename_i o ρ1 e1
    cases hg
    exact ⟨G, L, ρ, o, _, hs, e1, fun v H1 G1 L1 s1 f1 => q v σ H1 G1 L1 s1 f1 Kp.refl⟩
  · cases hg
def sRetN : MS := fun ρ => some (.rt (.fz .non), ρ)
theorem ss_retN : SS X cl pr (.Return none pos) sRetN := PS.weak ps_retN fun D σ H ⟨G, L, ρ, fl, ρ', hs, hg, q⟩ => by
  cases hg
  exact q .non σ H G L (hs.push rfl) Frame.refl Kp.refl
/-- a name's owned tree handed over -/
def oMove (i : Nat) : MO := fun ρ => match ρ[i]? with
  | some (some o) => some (o, ρ.set i none)
  | _ => none
theorem so_move (i : Nat) {x : Str} (h : PE X (.Name x pos) (tVar i)) : SO X cl (.Name x pos) (oMove i) := PE.weak h fun σ H Q ⟨G, L, ρ, o, ρ', hs, hg, q⟩ => by
  unfold oMove at hg
  split at hg
  · rename_i o' e1
    cases hg
    obtain ⟨v, ev⟩ := hs.all i _ e1
    have hi := (List.getElem?_eq_some_iff.mp e1).1
    refine ⟨v, ev, ?_⟩
    -- the slot's root renamed to the temporary one
    let n := ρ.length
    let k : Nat → Option Nat := fun j => if j = n then some i else if j = i then none else if j < n then some j else none
    let k' : Nat → Option Nat := fun j => if j = i then some n else if j < n then some j else none
    have hk : ∀ a b, k' a = some b ↔ k b = some a := fun a b => by
      simp only [k, k']
      constructor
      · intro e
        split at e
        · cases e
          rename_i z
          rw [if_pos rfl, z]
        · split at e
          · cases e
            rename_i z1 z2
            rw [if_neg (by omega), if_neg z1, if_pos z2]
          · cases e
      · intro e
        split at e
        · cases e
          rename_i z
          rw [if_pos rfl, z]
        · split at e
          · cases e
          · split at e
            · cases e
              rename_i z1 z2 z3
              rw [if_neg z2, if_pos z3]
            · cases e
    refine q v H G (subL L k') (SRep.of_rep (by simp [hs.len]) (fun j o2 e => ?_) (hs.rep.sub k k' hk) fun j => ?_) ⟨fun b x e l => ⟨e, by unfold subL; rw [l], id⟩, Le.refl⟩
    · rw [get_app] at e ⊢
      rw [hs.len]
      simp only [List.length_set] at e
      split at e
      · rename_i z
        rw [if_pos z]
        by_cases y : j = i
        · subst y; rw [List.getElem?_set_self z] at e; cases e
        · rw [List.getElem?_set_ne (Ne.symm y)] at e
          exact hs.all j o2 e
      · rename_i z
        rw [if_neg z]
        split at e
        · rename_i z2
          rw [if_pos z2]
          exact ⟨v, rfl⟩
        · cases e
    · simp only [k]
      rw [rootsOf_app (by simp [hs.len])]
      simp only [List.length_set]
      by_cases z : j = n
      · rw [if_pos z, if_neg (by omega)]
        show rootsOf σ ρ i = _
        rw [rootsOf_some.mpr ⟨ev, e1⟩, z]
        simp [rootsOf, n]
      · rw [if_neg z]
        by_cases y : j = i
        · rw [if_pos y, if_pos (by omega)]
          show none = _
          subst y
          unfold rootsOf
          rw [List.getElem?_set_self hi]
          split
          · rename_i e3; cases e3
          · rfl
        · rw [if_neg y]
          by_cases w : j < n
          · rw [if_pos w, if_pos w]
            show rootsOf σ ρ j = _
            unfold rootsOf
            rw [List.getElem?_set_ne (Ne.symm y)]
          · rw [if_neg w, if_neg w]
            show none = _
            rw [rootsOf_ge]
            simp
            omega
  · cases hg
/-- a name's tree frozen where it stands -/
def mTake (i : Nat) : MD := fun ρ => match ρ[i]? with
  | some (some o) => some (o.frz, ρ.set i (some (.fz o.frz)))
  | _ => none
theorem sd_take (i : Nat) {x : Str} (h : PE X (.Name x pos) (tVar i)) : SD X cl (.Name x pos) (mTake i) := PE.weak h fun σ H Q ⟨G, L, ρ, d, ρ', hs, hg, q⟩ => by
  unfold mTake at hg
  split at hg
  · rename_i o e1
    cases hg
    obtain ⟨v, ev⟩ := hs.all i _ e1
    have hi := (List.getElem?_eq_some_iff.mp e1).1
    obtain ⟨r1, r2, r3⟩ := hs.rep.freeze (rootsOf_some.mpr ⟨ev, e1⟩)
    refine ⟨v, ev, q v H _ _ (⟨by simp [hs.len], fun j o2 e => ?_, ⟨r1.ge, r1.sep, r1.imm, fun j w o2 e => ?_, fun b p l => ?_⟩⟩) r2 r3⟩
    · by_cases y : j = i
      · subst y; exact ⟨v, ev⟩
      · rw [List.getElem?_set_ne (Ne.symm y)] at e
        exact hs.all j o2 e
    · obtain ⟨e3, e4⟩ := rootsOf_some.mp e
      by_cases y : j = i
      · subst y
        rw [List.getElem?_set_self hi] at e4
        rw [ev] at e3
        cases e3
        cases e4
        exact r2
      · rw [List.getElem?_set_ne (Ne.symm y)] at e4
        refine r1.rep j w o2 ?_
        rw [if_neg y]
        exact rootsOf_some.mpr ⟨e3, e4⟩
    · obtain ⟨j, r', e3, e4⟩ := r1.own b p l
      refine ⟨j, r', e3, ?_⟩
      by_cases y : j = i
      · subst y; rw [rootsOf_some.mpr ⟨ev, List.getElem?_set_self hi⟩]; rfl
      · rw [if_neg y] at e4
        obtain ⟨⟨w, o2⟩, e5⟩ := Option.isSome_iff_exists.mp e4
        obtain ⟨e6, e7⟩ := rootsOf_some.mp e5
        rw [rootsOf_some.mpr ⟨e6, by rw [List.getElem?_set_ne (Ne.symm y)]; exact e7⟩]
        rfl
  · cases hg
/-- an expression alone -/
def sDrop (g : MO) : MS := fun ρ => match g ρ with
  | some (_, ρ1) => some (.nx, ρ1)
  | none => none
theorem ss_expr {g : MO} (he : SO X cl e g) (hs : swapsWith e none pos.line X.env = pure false := by rfl) : SS X cl pr (.Expr e pos) (sDrop g) := PS.weak (ps_expr he hs) fun D σ H ⟨G, L, ρ, fl, ρ', hs, hg, q⟩ => by
  unfold sDrop at hg
  split at hg
  · rename_i o ρ1 e1
    cases hg
    refine ⟨G, L, ρ, o, _, hs, e1, fun v H1 G1 L1 s1 f1 => ?_⟩
    obtain ⟨G2, L2, s2, _, f2⟩ := s1.pop
    exact q σ H1 G2 L2 s2 (f1.trans f2) Kp.refl
  · cases hg
/-- if -/
def sIf (c : MB) (g h : MS) : MS := fun ρ => match c ρ with
  | some (true, ρ1) => g ρ1
  | some (false, ρ1) => h ρ1
  | none => none
theorem ss_if {k : MB} {g h : MS} {body orelse : List Stmt} (hc : ST X cl c k) (ha : SSs X cl pr body g) (hb : SSs X cl pr orelse h) : SS X cl pr (.If c body orelse pos) (sIf k g h) := PS.weak (ps_if hc ha hb) fun D σ H ⟨G, L, ρ, fl, ρ', hs, hg, q⟩ => by
  unfold sIf at hg
  split at hg
  · rename_i ρ1 e1
    exact ⟨G, L, ρ, true, ρ1, hs, e1, fun H1 G1 L1 s1 f1 => iteT ⟨G1, L1, ρ1, fl, ρ', s1, hg, q.step f1 Kp.refl⟩⟩
  · rename_i ρ1 e1
    exact ⟨G, L, ρ, false, ρ1, hs, e1, fun H1 G1 L1 s1 f1 => iteF ⟨G1, L1, ρ1, fl, ρ', s1, hg, q.step f1 Kp.refl⟩⟩
  · cases hg
/-- for -/
def forLoop (b : MG) (body : MS) : List D → Rho → Option (Fl × Rho)
  | [], ρ => some (.nx, ρ)
  | d :: ds, ρ => (match b d ρ with
    | some ρ1 => (match body ρ1 with
      | some (.nx, ρ2) => forLoop b body ds ρ2
      | some (.ct, ρ2) => forLoop b body ds ρ2
      | some (.bk, ρ2) => some (.nx, ρ2)
      | some (.rt o, ρ2) => some (.rt o, ρ2)
      | none => none)
    | none => none)
def sFor (gi : MI) (b : MG) (body : MS) : MS := fun ρ => match gi ρ with
  | some (ds, ρ1) => forLoop b body ds ρ1
  | none => none
theorem ss_for {gi : MI} {T : List Nat} {bd : MG} {g : MS} {iter : Expr} {body : List Stmt} (hi : SI X cl tg iter gi) (hb : SG X cl tg T bd) (hd : SSs X cl pr body g) (hpo : PassesOwn (model X.prog X.w) X.A X.env X.xe := by exact PassesOwn.never) (hp : ∀ i ∈ T, i ∉ pr := by decide) (hc : X.calm = true := by rfl)
    (hs : ∀ x, foldedSetIterable iter X.env x = pure x := by intro _; rfl) : SS X cl pr (.For tg iter body [] pos) (sFor gi bd g) := PS.weak (ps_for hpo hc hi hb hd hs) fun D σ H ⟨G, L, ρ, fl, ρ', hs, hg, q⟩ => by
  unfold sFor at hg
  split at hg
  · rename_i ds ρ1 e1
    refine ⟨G, L, ρ, ds, ρ1, hs, e1, fun J H1 G1 L1 s1 f1 it => ?_⟩
    refine ⟨fun i m σc Hc => m = ds.length - i ∧ i ≤ ds.length ∧ ∃ Gc Lc ρc, SRep X.K cl σc Hc Gc Lc ρc ∧ forLoop bd g (ds.drop i) ρc = some (fl, ρ') ∧ Frame H1 G1 L1 Hc Gc Lc ∧ Kp pr σ σc, ⟨ds.length, by simp, Nat.zero_le _, G1, L1, ρ1, s1, by simpa using hg, Frame.refl, Kp.refl⟩, ?_⟩
    rintro i m σc Hc ⟨rfl, hi, Gc, Lc, ρc, sc, ec, fc, kc⟩
    have q1 := q.step f1 (Kp.refl (σ := σ))
    by_cases hlt : i < ds.length
    · refine .inr ?_
      have ed : ds[i]? = some ds[i] := List.getElem?_eq_getElem hlt
      have edrop : ds.drop i = ds[i] :: ds.drop (i + 1) := (List.getElem_cons_drop hlt).symm
      rw [edrop] at ec
      obtain ⟨hgo, hy⟩ := it.go i Hc Gc ds[i] fc.le sc.le sc.rep.imm ed
      refine ⟨hgo, fun σn Hn => i + 1 ≤ ds.length ∧ ∃ Gc Lc ρc, SRep X.K cl σn Hn Gc Lc ρc ∧ forLoop bd g (ds.drop (i + 1)) ρc = some (fl, ρ') ∧ Frame H1 G1 L1 Hn Gc Lc ∧ Kp pr σ σn, fun σn Hn hn => ⟨ds.length - (i + 1), by omega, rfl, hn⟩, fun x Hy yy => ?_⟩
      obtain ⟨G3, ext, rx⟩ := hy x Hy yy
      obtain ⟨s3, f3⟩ := sc.ext ext
      simp only [forLoop] at ec
      split at ec
      · rename_i ρ3 e3
        refine ⟨G3, Lc, ρc, ds[i], ρ3, s3, rx, e3, fun σ4 H4 G4 L4 s4 f4 k4 n4 => ?_⟩
        have kp4 : Kp pr σc σ4 := fun j hj => k4 j fun z => hp j z hj
        have f14 := (fc.trans f3).trans f4
        split at ec
        · rename_i ρ5 e5
          exact ⟨G4, L4, ρ3, .nx, ρ5, s4, e5, fun σ5 H5 G5 L5 s5 f5 k5 => ⟨hlt, G5, L5, ρ5, s5, ec, f14.trans f5, (kc.trans kp4).trans k5⟩⟩
        · rename_i ρ5 e5
          exact ⟨G4, L4, ρ3, .ct, ρ5, s4, e5, fun σ5 H5 G5 L5 s5 f5 k5 => ⟨hlt, G5, L5, ρ5, s5, ec, f14.trans f5, (kc.trans kp4).trans k5⟩⟩
        · rename_i ρ5 e5
          cases ec
          exact ⟨G4, L4, ρ3, .bk, _, s4, e5, fun σ5 H5 G5 L5 s5 f5 k5 => q1 σ5 H5 G5 L5 s5 (f14.trans f5) ((kc.trans kp4).trans k5)⟩
        · rename_i o' ρ5 e5
          cases ec
          exact ⟨G4, L4, ρ3, .rt o', _, s4, e5, fun v σ5 H5 G5 L5 s5 f5 k5 => q1 v σ5 H5 G5 L5 s5 (f14.trans f5) ((kc.trans kp4).trans k5)⟩
        · cases ec
      · cases ec
    · have hi2 : i = ds.length := by omega
      subst hi2
      simp only [List.drop_length, forLoop] at ec
      cases ec
      exact .inl ⟨it.stop _ Hc (fc.le.trans sc.le) (Nat.le_refl _), q1 σc Hc Gc Lc sc fc kc⟩
  · cases hg
/-- while, by so many turns at most -/
def whileLoop (c : MB) (body : MS) : Nat → Rho → Option (Fl × Rho)
  | 0, _ => none
  | n + 1, ρ => (match c ρ with
    | some (true, ρ1) => (match body ρ1 with
      | some (.nx, ρ2) => whileLoop c body n ρ2
      | some (.ct, ρ2) => whileLoop c body n ρ2
      | some (.bk, ρ2) => some (.nx, ρ2)
      | some (.rt o, ρ2) => some (.rt o, ρ2)
      | none => none)
    | some (false, ρ1) => some (.nx, ρ1)
    | none => none)
theorem ss_while {k : MB} {g : MS} {body : List Stmt} (n : Nat) (hc : ST X cl c k) (hd : SSs X cl pr body g) (hpo : PassesOwn (model X.prog X.w) X.A X.env X.xe := by exact PassesOwn.never) : SS X cl pr (.While c body [] pos) (whileLoop k g n) :=
  PS.weak (ps_while hpo hc hd) fun D σ H ⟨G, L, ρ, fl, ρ', hs, hg, q⟩ => by
    refine ⟨fun m σc Hc => ∃ Gc Lc ρc, SRep X.K cl σc Hc Gc Lc ρc ∧ whileLoop k g m ρc = some (fl, ρ') ∧ Frame H G L Hc Gc Lc ∧ Kp pr σ σc, ⟨n, G, L, ρ, hs, hg, Frame.refl, Kp.refl⟩, ?_⟩
    rintro m σc Hc ⟨Gc, Lc, ρc, sc, ec, fc, kc⟩
    cases m with
    | zero => cases ec
    | succ m =>
      simp only [whileLoop] at ec
      split at ec
      · rename_i ρ1 e1
        refine ⟨Gc, Lc, ρc, true, ρ1, sc, e1, fun H1 G1 L1 s1 f1 => iteT ?_⟩
        refine ⟨fun σn Hn => ∃ Gc Lc ρc, SRep X.K cl σn Hn Gc Lc ρc ∧ whileLoop k g m ρc = some (fl, ρ') ∧ Frame H G L Hn Gc Lc ∧ Kp pr σ σn, fun σn Hn hn => ⟨m, Nat.lt_succ_self _, hn⟩, ?_⟩
        split at ec
        · rename_i ρ5 e5
          exact ⟨G1, L1, ρ1, .nx, ρ5, s1, e5, fun σ5 H5 G5 L5 s5 f5 k5 => ⟨G5, L5, ρ5, s5, ec, (fc.trans f1).trans f5, kc.trans k5⟩⟩
        · rename_i ρ5 e5
          exact ⟨G1, L1, ρ1, .ct, ρ5, s1, e5, fun σ5 H5 G5 L5 s5 f5 k5 => ⟨G5, L5, ρ5, s5, ec, (fc.trans f1).trans f5, kc.trans k5⟩⟩
        · rename_i ρ5 e5
          cases ec
          exact ⟨G1, L1, ρ1, .bk, _, s1, e5, fun σ5 H5 G5 L5 s5 f5 k5 => q σ5 H5 G5 L5 s5 ((fc.trans f1).trans f5) (kc.trans k5)⟩
        · rename_i o' ρ5 e5
          cases ec
          exact ⟨G1, L1, ρ1, .rt o', _, s1, e5, fun v σ5 H5 G5 L5 s5 f5 k5 => q v σ5 H5 G5 L5 s5 ((fc.trans f1).trans f5) (kc.trans k5)⟩
        · cases ec
      · rename_i ρ1 e1
        cases ec
        exact ⟨Gc, Lc, ρc, false, _, sc, e1, fun H1 G1 L1 s1 f1 => iteF (q σc H1 G1 L1 s1 (fc.trans f1) kc)⟩
      · cases ec
end
end PI
set_option Elab.async false
set_option linter.all false
set_option maxRecDepth 100000
set_option maxHeartbeats 1000000
set_option autoImplicit false
/-! PI11: stores into owned lists, dicts, instances. -/
namespace PI
open PySem PySem.Spec L2
section
variable {X : Cx} {cl : Cl} {e a b c o tg ix : Expr} {es rest : List Expr} {pos pos' : Pos} {st : Stmt} {sts : List Stmt} {pr : List Nat}
/-- x[k] = e, x a name of an owned list; e, then k -/
def sItem (i : Nat) (gk : MD) (g : MO) : MS := fun ρ => match g ρ with
  | some (o, ρ1) => (match gk ρ1 with
    | some (.int k, ρ2) => (match ρ2[i]? with
      | some (some (.lst os)) => (match ixN os.length k, ρ1[i]? with
        | some j, some (some _) => some (.nx, ρ2.set i (some (.lst (os.set j o))))
        | _, _ => none)
      | _ => none)
    | _ => none)
  | none => none
theorem ss_item (i : Nat) {x : Str} {xp ipos : Pos} {gk : MD} {g : MO} (he : SO X cl e g) (hx : PE X (.Name x xp) (tVar i)) (hk : SD X cl ix gk)
    (hs : swapsWithSole [.Subscript (.Name x xp) ix ipos] e pos.line X.env = pure false := by rfl) (hw : swappedStores [.Subscript (.Name x xp) ix ipos] e X.env = pure none := by rfl) (h1 : (assignEach [.Subscript (.Name x xp) ix ipos] X.env).map (·.2) = [assign (.Subscript (.Name x xp) ix ipos) X.env] := by rfl)
    (ha : ∀ v, assign (.Subscript (.Name x xp) ix ipos) X.env v = (do
      let ov ← holding [v] (eval (.Name x xp) X.env)
      let iv ← holding [v, ov] (eval ix X.env)
      standAt ipos
      holding [v, ov, iv] (setItem ov iv v)
      release [v, ov, iv] []) := by intro _; rfl) :
    SS X cl pr (.Assign [.Subscript (.Name x xp) ix ipos] e pos) (sItem i gk g) := PS.weak (ps_asg he (pg_sub hx hk set_list ha) hs hw h1) fun D σ H ⟨G, L, ρ, fl, ρ', hs, hg, q⟩ => by
  unfold sItem at hg
  split at hg
  · rename_i o ρ1 e1
    split at hg
    · rename_i k ρ2 e2
      split at hg
      · rename_i os e3
        split at hg
        · rename_i j t0 e4 e5
          cases hg
          refine ⟨G, L, ρ, o, ρ1, hs, e1, fun v H1 G1 L1 s1 f1 => ?_⟩
          have l1 : σ.length = ρ1.length := by simpa using s1.len
          have sl := s1.low l1
          obtain ⟨w, ew⟩ := sl.all i _ e5
          refine ⟨w, ew, G1, _, ρ1, .int k, ρ2, sl, e2, fun kv H2 G2 L2 s2 r2 f2 => ?_⟩
          cases r2
          obtain ⟨L3, s3, f3⟩ := s1.beside (ν := []) (ξ := []) l1 (by simpa using s2) (by have := s2.len; omega) f2
          obtain ⟨p, vs, c1, c2, c3, L4, s4, f4⟩ := SRep.setItem (k := j) (by simpa using s3) e3
          rw [ew] at c1
          cases c1
          exact ⟨p, vs, k, j, rfl, rfl, c2, by rw [c3]; exact e4, q σ _ G2 L4 s4 ((f1.trans f3).trans f4) Kp.refl⟩
        · cases hg
      · cases hg
    · cases hg
  · cases hg
/-- x.append(e), x a name of an owned list -/
def sAppend (i : Nat) (g : MO) : MS := fun ρ => match ρ[i]? with
  | some (some (.lst _)) => (match g ρ with
    | some (o, ρ1) => (match ρ1[i]? with
      | some (some (.lst os)) => (match decide (os.length < sizeLine) with
        | true => some (.nx, ρ1.set i (some (.lst (os ++ [o]))))
        | false => none)
      | _ => none)
    | none => none)
  | _ => none
theorem ss_append (i : Nat) {x : Str} {xp apos cpos : Pos} {g : MO} (he : SO X cl e g) (hx : PE X (.Name x xp) (tVar i)) (hsw : swapsWith (.Call (.Attribute (.Name x xp) "append" apos) [e] [] cpos) none pos.line X.env = pure false := by rfl)
    (hb : attributeBase (.Name x xp) "append" X.env (eval (.Name x xp) X.env) = eval (.Name x xp) X.env := by rfl)
    (hfew : ((backTo cpos (starEach [e] X.env)).all (fun x => !x.1) && (backToKw cpos (keywordEach [] X.env)).all (fun x => x.1.isSome) && decide ([e].length + ([] : List Keyword).length + (if ([] : List Keyword).isEmpty then 0 else 1) < 30)) = true := by rfl)
    (hline : (apos.endLine == cpos.line) = true := by rfl) (hs : starEach [e] X.env = (false, eval e X.env) :: starEach [] X.env := by rfl) : SS X cl pr (.Expr (.Call (.Attribute (.Name x xp) "append" apos) [e] [] cpos) pos) (sAppend i g) := by
  have hA : SA X cl [e] [none] (aCons g aNil) := sa_cons he sa_nil hs
  refine PS.weak (ps_expr (pe_bm PySem.F.plainAttrs_list PySem.F.slot_list_append PySem.F.type_list_append mt_append hx hA hb hfew hline hs (by rfl)) hsw) fun D σ H ⟨G, L, ρ, fl, ρ', hs, hg, q⟩ => ?_
  unfold sAppend at hg
  split at hg
  · rename_i os0 e0
    split at hg
    · rename_i o ρ1 e1
      split at hg
      · rename_i os e2
        split at hg
        · rename_i z
          cases hg
          obtain ⟨p, vs0, c1, _, c2, _⟩ := hs.lst_at e0
          refine ⟨_, c1, .inl ⟨rfl, vs0, SqL.of c2⟩, G, L, ρ, [some o], ρ1, hs, by simp [aCons, aNil, e1], fun vs H1 G1 L1 s1 n1 _ f1 => ?_⟩
          have hv : vs.length = 1 := by have := s1.len; have := hs.len; simp at *; omega
          obtain ⟨v, rfl⟩ : ∃ v, vs = [v] := by
            cases vs with
            | nil => cases hv
            | cons v ws => cases ws with
              | nil => exact ⟨v, rfl⟩
              | cons _ _ => simp at hv
          obtain ⟨p', vs', d1, d2, d3, L4, s4, f4⟩ := SRep.append (by simpa using s1) e2
          rw [c1] at d1
          cases d1
          exact ⟨p, vs', v, rfl, rfl, d2, by rw [d3]; exact of_decide_eq_true z, q σ _ G1 L4 s4 (f1.trans f4) Kp.refl⟩
        · cases hg
      · cases hg
    · cases hg
  · cases hg
/-! dicts -/
def hasK (ks : List Key) (k : Key) : Bool := ks.any fun k' => decide (k' = k)
def putO : List Key → List O → Key → D → List O
  | k :: ks, o :: os, j, d => (if k = j then .fz d else o) :: putO ks os j d
  | _, _, _, _ => []
theorem putO_ok {K : PySem.W.Frag} {G H H' : Hp} {L : Lab} {p : Path} {j : Key} {v : V} {d : D} (hv : RepV K cl G v d) (hm : ∀ a j r, L a = some (p ++ j :: r) → ∀ x, H a = some x → H' a = some x) : ∀ (kvs : List (Key × V)) (os : List O) (i : Nat), RepOs K cl G H L p i (kvs.map (·.2)) os →
    RepOs K cl G H' L p i ((kvs.map fun kv => if kv.1 = j then (kv.1, v) else kv).map (·.2)) (putO (kvs.map (·.1)) os j d)
  | [], _, _, _ => by
    simp only [List.map_nil, putO]
    exact rfl
  | (k, w) :: kvs, [], _, r => by cases r
  | (k, w) :: kvs, o :: os, i, ⟨w', ws, e, r, rs⟩ => by
    simp only [List.map_cons, List.cons.injEq] at e
    obtain ⟨rfl, rfl⟩ := e
    simp only [List.map_cons, putO]
    refine ⟨_, _, rfl, ?_, putO_ok hv hm kvs os (i + 1) rs⟩
    by_cases z : k = j
    · rw [if_pos z, if_pos z]
      exact hv
    · rw [if_neg z, if_neg z]
      have := RepO.move (L := L) (H := H) (L' := L) (H' := H') (p := p ++ [i]) (p' := p ++ [i]) Le.refl (fun a q l => ⟨l, hm a i q (by rw [l]; simp)⟩) o w [] (by simpa using r)
      simpa using this
/-- d[y] = e, d a name of an owned dict; e, then y -/
def sPut (i : Nat) (gk : MD) (g : MD) : MS := fun ρ => match g ρ with
  | some (d, ρ1) => (match gk ρ1 with
    | some (y, ρ2) => (match keyD y, ρ2[i]?, ρ1[i]? with
      | some k, some (some (.dct ks os)), some (some _) => (match decide (ks.length < sizeLine) with
        | true => some (.nx, ρ2.set i (some (match hasK ks k with | true => .dct ks (putO ks os k d) | false => .dct (ks ++ [k]) (os ++ [.fz d]))))
        | false => none)
      | _, _, _ => none)
    | _ => none)
  | none => none
theorem ss_put (i : Nat) {x : Str} {xp ipos : Pos} {gk g : MD} (hu : X.A.units + 1 < cLine) (he : SD X cl e g) (hx : PE X (.Name x xp) (tVar i)) (hk : SD X cl ix gk) (hs : swapsWith e (some (.Subscript (.Name x xp) ix ipos)) pos.line X.env = pure false := by rfl) :
    SS X cl pr (.Assign [.Subscript (.Name x xp) ix ipos] e pos) (sPut i gk g) := PS.weak (ps_dput hu hx hk he hs) fun D σ H ⟨G, L, ρ, fl, ρ', hs, hg, q⟩ => by
  unfold sPut at hg
  split at hg
  · rename_i d ρ1 e1
    split at hg
    · rename_i y ρ2 e2
      split at hg
      · rename_i k ks os t0 e3 e4 e5
        split at hg
        · rename_i z
          cases hg
          have z := of_decide_eq_true z
          refine ⟨G, L, ρ, d, ρ1, hs, e1, fun v H1 G1 L1 s1 r1 f1 => ?_⟩
          obtain ⟨w, ew⟩ := s1.all i _ e5
          refine ⟨w, ew, G1, L1, ρ1, y, ρ2, s1, e2, fun yv H2 G2 L2 s2 r2 f2 => ?_⟩
          obtain ⟨p, kvs, c1, la, c2, c3, rr⟩ := s2.dct_at e4
          rw [ew] at c1
          cases c1
          have hi := (List.getElem?_eq_some_iff.mp e4).1
          have kl : kvs.length = ks.length := by rw [← c3]; simp
          refine ⟨p, _, rfl, .inl ⟨kvs, k, c2, keyD_ok e3 r2, by omega, rfl⟩, ?_⟩
          have any : (kvs.any fun kv => decide (kv.1 = k)) = hasK ks k := by
            rw [← c3]
            unfold hasK
            rw [List.any_map]
            rfl
          have hne : ∀ b q, L2 b = some (i :: q) → q ≠ [] → b ≠ p := fun b q l n z => by rw [z, la] at l; cases l; exact n rfl
          have rv := r1.mono f2.le
          -- the dict under its root with the new entries
          have key : ∃ t, (match hasK ks k with | true => O.dct ks (putO ks os k d) | false => O.dct (ks ++ [k]) (os ++ [.fz d])) = t ∧ RepO X.K cl G2 (upd H2 p (.dK (putK kvs k v))) L2 [i] (.ref p) t := by
            refine ⟨_, rfl, ?_⟩
            cases hk : hasK ks k with
            | true =>
              show RepO X.K cl G2 (upd H2 p (.dK (putK kvs k v))) L2 [i] (.ref p) (O.dct ks (putO ks os k d))
              have e6 : putK kvs k v = kvs.map fun kv => if kv.1 = k then (kv.1, v) else kv := by
                unfold putK
                rw [any, hk, if_pos rfl]
              rw [e6]
              refine ⟨p, _, rfl, la, upd_same, ?_, ?_⟩
              · rw [← c3, List.map_map]
                refine List.map_congr_left fun kv _ => ?_
                show (if kv.1 = k then (kv.1, v) else kv).1 = kv.1
                split <;> rfl
              · rw [← c3]
                exact putO_ok rv (fun b j r l x hx => by rw [upd_ne (hne b _ l (by simp))]; exact hx) kvs os 0 rr
            | false =>
              show RepO X.K cl G2 (upd H2 p (.dK (putK kvs k v))) L2 [i] (.ref p) (O.dct (ks ++ [k]) (os ++ [.fz d]))
              have e6 : putK kvs k v = kvs ++ [(k, v)] := by
                unfold putK
                rw [any, hk, if_neg Bool.false_ne_true]
              rw [e6]
              refine ⟨p, _, rfl, la, upd_same, by rw [List.map_append, c3]; rfl, ?_⟩
              rw [List.map_append]
              exact RepOs.snoc os _ 0 (RepOs.kids Le.refl (fun b j q l => ⟨l, fun x hx => by rw [upd_ne (hne b _ l (by simp))]; exact hx⟩) os _ 0 rr) rv
          obtain ⟨t, et, rt⟩ := key
          rw [et] at q
          have ga : G2 p = none := (s2.rep.sep p _ la).1
          refine q σ _ G2 L2 ⟨by simp [s2.len], fun m o' e => ?_, ⟨fun b x hb => ?_, fun b p' l => ?_, fun b xs e => ?_, fun m v' o' e => ?_, fun b p' l => ?_⟩⟩ ((f1.trans f2).trans ⟨fun b x e l => ?_, Le.refl⟩) Kp.refl
          · by_cases y : m = i
            · subst y; exact ⟨_, ew⟩
            · rw [List.getElem?_set_ne (Ne.symm y)] at e
              exact s2.all m o' e
          · rw [upd_ne (fun z => by rw [z, ga] at hb; cases hb)]
            exact s2.le b x hb
          · obtain ⟨g, x, hx⟩ := s2.rep.sep b p' l
            refine ⟨g, ?_⟩
            by_cases y : b = p
            · subst y; exact ⟨_, upd_same⟩
            · exact ⟨x, by rw [upd_ne y]; exact hx⟩
          · by_cases y : b = p
            · subst y; rw [upd_same] at e; cases e
            · rw [upd_ne y] at e; exact s2.rep.imm b xs e
          · obtain ⟨d1, d2⟩ := rootsOf_some.mp e
            by_cases y : m = i
            · subst y
              rw [List.getElem?_set_self hi] at d2
              rw [ew] at d1
              cases d1
              cases d2
              exact rt
            · rw [List.getElem?_set_ne (Ne.symm y)] at d2
              have := RepO.move (L := L2) (H := H2) (L' := L2) (H' := upd H2 p (.dK (putK kvs k v))) (G' := G2) (p := [m]) (p' := [m]) Le.refl (fun b q l => ⟨l, fun x hx => by
                rw [upd_ne (fun z => by rw [z, la] at l; cases l; exact y rfl)]; exact hx⟩) o' v' [] (by simpa using s2.rep.rep m v' o' (rootsOf_some.mpr ⟨d1, d2⟩))
              simpa using this
          · obtain ⟨m, r', d1, d2⟩ := s2.rep.own b p' l
            refine ⟨m, r', d1, ?_⟩
            by_cases y : m = i
            · subst y; rw [rootsOf_some.mpr ⟨ew, List.getElem?_set_self hi⟩]; rfl
            · obtain ⟨⟨w, o2⟩, d5⟩ := Option.isSome_iff_exists.mp d2
              obtain ⟨d6, d7⟩ := rootsOf_some.mp d5
              rw [rootsOf_some.mpr ⟨d6, by rw [List.getElem?_set_ne (Ne.symm y)]; exact d7⟩]
              rfl
          · rw [upd_ne (fun z => by rw [z, la] at l; cases l)]
            exact ⟨e, l, id⟩
        · cases hg
      · cases hg
    · cases hg
  · cases hg
end
end PI
set_option Elab.async false
set_option linter.all false
set_option maxRecDepth 100000
set_option maxHeartbeats 1000000
set_option autoImplicit false
/-! PI12: calls with frozen arguments, instances made, fields stored, dict displays; defs. -/
namespace PI
open PySem PySem.Spec L2
section
variable {K : PySem.W.Frag} {cl : Cl} {G G' H H' : Hp} {L L' : Lab} {σ σ' τ : St} {ρ ρ' ω : Rho}
/-- frozen values as temporary roots -/
theorem SRep.pushes : ∀ (ds : List D) (vs : List V) {σ : St} {ρ : Rho}, SRep K cl σ H G L ρ → RepVs K cl G vs ds → SRep K cl (σ ++ vs.map some) H G L (ρ ++ ds.map fun d => some (.fz d))
  | [], vs, σ, ρ, h, r => by
    cases r
    simpa using h
  | d :: ds, _, σ, ρ, h, ⟨v, ws, e, r, rs⟩ => by
    subst e
    have := SRep.pushes ds ws (h.push r) rs
    simpa using this
theorem gather_fz : ∀ (ds : List D) (ρ : Rho), gather (ds.map fun _ => none) (ds.map fun d => some (.fz d)) ρ = some (ds.map .fz)
  | [], _ => rfl
  | d :: ds, ρ => by simp [gather, gather_fz ds ρ]
theorem lendOk_none : ∀ (ds : List D), lendOk (ds.map fun _ => none) = true
  | [] => rfl
  | d :: ds => by simp [lendOk, lendOk_none ds]
theorem setL_none : ∀ (ds : List D) (os ρ : Rho), setL (ds.map fun _ => none) os ρ = ρ
  | [], os, ρ => by simp [setL]
  | d :: ds, [], ρ => by simp [setL]
  | d :: ds, o :: os, ρ => by simp [setL, setL_none ds os ρ]
/-- the callee's side of a call -/
theorem call_core {fn : Fn} {ks : Lends} (hk : lendOk ks = true) {vs : List V} {as : List O} {r : O} {as' : Rho} {Q : VK} {E : XK} (s1 : SRep K cl (σ ++ vs.map some) H G L (ρ ++ ω)) (l1 : σ.length = ρ.length)
    (le1 : ∀ (k i : Nat), ks[k]? = some (some i) → ∃ v, vs[k]? = some v ∧ σ[i]? = some (some v)) (e2 : gather ks ω ρ = some as) (e3 : fn as = some (r, as')) (e4 : as'.length = as.length)
    (q : ∀ v H' G' L', SRep K cl (σ ++ [some v]) H' G' L' (setL ks as' ρ ++ [some r]) → Frame H G L H' G' L' → Q v H') : spOf K cl fn vs H Q E := by
  obtain ⟨g1, g2, g3, g4⟩ := gather_spec ks ω ρ as e2
  have nd := srcOf_nodup (n := ρ.length) 0 ks hk g3
  have hv : vs.length = ks.length := by have := s1.len; simp at this; omega
  have sl := srcOf_length ρ.length 0 ks
  have key : ∀ (j i : Nat), (srcOf ρ.length 0 ks)[j]? = some i → ∃ v o, vs[j]? = some v ∧ as[j]? = some o ∧ rootsOf (σ ++ vs.map some) (ρ ++ ω) i = some (v, o) ∧ (i < ρ.length → σ[i]? = some (some v)) := fun j i z => by
    obtain ⟨o, a1, a2⟩ := g4 ρ.length 0 j rfl i z
    rcases a2 with ⟨b1, b2, b3⟩ | ⟨b1, b2, b3⟩
    · obtain ⟨v, c1, c2⟩ := le1 j i b2
      exact ⟨v, o, c1, a1, rootsOf_some.mpr ⟨by rw [List.getElem?_append_left (by omega)]; exact c2, by rw [List.getElem?_append_left b1]; exact b3⟩, fun _ => c2⟩
    · have hj : j < vs.length := by
        have := (List.getElem?_eq_some_iff.mp z).1
        omega
      refine ⟨vs[j], o, List.getElem?_eq_getElem hj, a1, rootsOf_some.mpr ⟨?_, ?_⟩, fun y => by omega⟩
      · rw [List.getElem?_append_right (by omega), show i - σ.length = j by omega]
        simp [List.getElem?_eq_getElem hj]
      · rw [List.getElem?_append_right (by omega), show i - ρ.length = j by omega]
        exact b3
  refine ⟨G, _, as, r, as', s1.enter nd (by omega) (by omega) (fun j i z => ?_), e3, e4, fun v H2 G2 L2 s2 f2 => ?_⟩
  · obtain ⟨v, o, c1, c2, c3, _⟩ := key j i z
    exact ⟨v, o, c1, c2, c3⟩
  · obtain ⟨L3, s3, f3⟩ := s1.leave l1 nd (by omega) (by omega) (fun j i z y => by
      obtain ⟨v, o, c1, _, _, c4⟩ := key j i z
      exact ⟨v, c1, c4 y⟩) s2 f2
    rw [setL_back ks as' ρ 0 rfl (by omega)] at s3
    exact q v H2 G2 L3 s3 f3
/-- a call whose arguments are all frozen -/
theorem call_fz {fn : Fn} {vs : List V} {ds : List D} {r : O} {as' : Rho} {Q : VK} {E : XK} (s : SRep K cl σ H G L ρ) (rv : RepVs K cl G vs ds) (e3 : fn (ds.map .fz) = some (r, as')) (e4 : as'.length = ds.length)
    (q : ∀ v H' G' L', SRep K cl (σ ++ [some v]) H' G' L' (ρ ++ [some r]) → Frame H G L H' G' L' → Q v H') : spOf K cl fn vs H Q E := by
  refine call_core (lendOk_none ds) (s.pushes ds vs rv) s.len (fun k i h => ?_) (gather_fz ds ρ) e3 (by simpa using e4) fun v H' G' L' s' f' => q v H' G' L' (by rw [setL_none] at s'; exact s') f'
  simp at h
end
section
variable {X : Cx} {cl : Cl} {e a b c o tg ix : Expr} {es rest : List Expr} {pos pos' apos : Pos} {st : Stmt} {sts : List Stmt} {pr : List Nat}
/-- a call with frozen arguments -/
def oCallD (fn : Fn) (f : MDs) : MO := fun ρ => match f ρ with
  | some (ds, ρ1) => (match fn (ds.map .fz) with
    | some (r, as') => (match decide (as'.length = ds.length) with
      | true => some (r, ρ1)
      | false => none)
    | none => none)
  | none => none
theorem so_callD {x : Str} {p : Pos} {fn : Fn} {f : MDs} (C : Callee X.prog X.w X.K X.mg X.base X.A cl x fn) (ha : SDs X cl (e :: es) f) (hg : Gl X x := by rfl) (hdb : (x == ("__debug__" : Str)) = false := by decide)
    (he : starEach (e :: es) X.env = (false, eval e X.env) :: starEach es X.env := by rfl) (hpl : (backTo pos (starEach es X.env)).any (·.1) = false := by rfl) : SO X cl (.Call (.Name x p) (e :: es) [] pos) (oCallD fn f) := by
  obtain ⟨a, fd, ps, k, F, hr, hm, kp, hb⟩ := C.ex
  refine PE.weak (pe_call F hr hg hm kp hb .nil pass0 ha hdb he hpl) fun σ H Q ⟨G, L, ρ, o, ρ', hs, hg, q⟩ => ?_
  unfold oCallD at hg
  split at hg
  · rename_i ds ρ1 e1
    split at hg
    · rename_i r as' e2
      split at hg
      · rename_i z
        cases hg
        refine ⟨G, L, ρ, ds, _, hs, e1, fun vs H1 G1 L1 s1 r1 f1 => ?_⟩
        show spOf X.K cl fn (vs ++ []) H1 Q E0
        rw [List.append_nil]
        exact call_fz s1 r1 e2 (of_decide_eq_true z) fun v H' G' L' s' f' => q v H' G' L' s' (f1.trans f')
      · cases hg
    · cases hg
  · cases hg
/-- a method of a frozen instance, with frozen arguments -/
structure CalleeM (P : Program) (w : World) (K : PySem.W.Frag) (mg : Str → Option Value) (base : Heap) (A : Around) (cl : Cl) (c : Nat) (m : Str) (fn : Fn) : Prop where
  ex : ∃ f fd ps k, FnOk P w K mg base CX0 k f fd ps (spOf K cl fn) ∧ Room k A ∧ Cls K (cl c) ∧ Meth K (cl c) m f ∧ Binds K fd ps []
def oMethD (c : Nat) (m : Str) (fn : Fn) (g : MD) (f : MDs) : MO := fun ρ => match g ρ with
  | some (.obj c' ns ds0, ρ0) => (match f ρ0 with
    | some (ds, ρ1) => (match fn ((D.obj c' ns ds0 :: ds).map .fz) with
      | some (r, as') => (match decide (as'.length = ds.length + 1) && (decide (c' = c) && !ns.contains m) with
        | true => some (r, ρ1)
        | false => none)
      | none => none)
    | none => none)
  | _ => none
theorem lookup_not : ∀ (fs : List (Str × V)) (m : Str), (fs.map (·.1)).contains m = false → fs.lookup m = none
  | [], _, _ => rfl
  | (k, v) :: fs, m, h => by
    simp only [List.map_cons, List.contains_cons, Bool.or_eq_false_iff] at h
    simp only [List.lookup]
    rw [h.1]
    exact lookup_not fs m h.2
theorem so_methD {c : Nat} {m : Str} {fn : Fn} {g : MD} {f : MDs} {pl : Sem Bool} (C : CalleeM X.prog X.w X.K X.mg X.base X.A cl c m fn) (ho : SD X cl o g) (ha : SDs X cl (e :: es) f)
    (hst : starEach (e :: es) X.env = (false, eval e X.env) :: starEach es X.env := by rfl) (hpl : (backTo pos (starEach es X.env)).any (·.1) = false := by rfl)
    (ht : eval (.Call (.Attribute o m apos) (e :: es) [] pos) X.env = (do
      let ov ← eval o X.env
      standAt apos.atName
      let (f, first) ← holding [ov] (getMethod ov m pl)
      callWith pos f first (backTo pos (starEach (e :: es) X.env)) (backToKw pos (keywordEach [] X.env))) := by rfl) : SO X cl (.Call (.Attribute o m apos) (e :: es) [] pos) (oMethD c m fn g f) := by
  obtain ⟨a, fd, ps, k, F, hr, hc, hm, hb⟩ := C.ex
  refine PE.weak (pe_meth ho hc hm F hr hb .nil pass0 ha hst hpl ht) fun σ H Q ⟨G, L, ρ, o, ρ', hs, hg, q⟩ => ?_
  unfold oMethD at hg
  split at hg
  · rename_i c' ns ds0 ρ0 e0
    split at hg
    · rename_i ds ρ1 e1
      split at hg
      · rename_i r as' e2
        split at hg
        · rename_i z
          cases hg
          obtain ⟨z1, z2⟩ := Bool.and_eq_true_iff.mp z
          obtain ⟨z2, z3⟩ := Bool.and_eq_true_iff.mp z2
          have z2 := of_decide_eq_true z2
          subst z2
          refine ⟨G, L, ρ, _, ρ0, hs, e0, fun v0 H0 G0 L0 s0 r0 f0 => ?_⟩
          obtain ⟨p, dx, fs, rfl, hp, hn, rr⟩ := id r0
          refine ⟨p, dx, fs, rfl, s0.le _ _ hp, lookup_not fs m (by rw [hn]; simpa using z3), G0, L0, ρ0, ds, _, s0, e1, fun vs H1 G1 L1 s1 r1 f1 => ?_⟩
          show spOf X.K cl fn (.ref p :: (vs ++ [])) H1 Q E0
          rw [List.append_nil]
          exact call_fz (ds := D.obj c' ns ds0 :: ds) s1 ⟨_, vs, rfl, r0.mono f1.le, r1⟩ e2 (of_decide_eq_true z1) fun v H' G' L' s' f' => q v H' G' L' s' ((f0.trans f1).trans f')
        · cases hg
      · cases hg
    · cases hg
  · cases hg
/-! ### fields stored -/
def hasS (ns : List Str) (f : Str) : Bool := ns.any fun g => decide (g = f)
def posS : List Str → Str → Nat
  | [], _ => 0
  | g :: gs, f => if g = f then 0 else posS gs f + 1
theorem putF_new {f : Str} {v : V} : ∀ (fs : List (Str × V)), hasS (fs.map (·.1)) f = false → putF f v fs = fs ++ [(f, v)]
  | [], _ => rfl
  | (g, x) :: r, h => by
    simp only [hasS, List.map_cons, List.any_cons, Bool.or_eq_false_iff, decide_eq_false_iff_not] at h
    unfold putF
    rw [if_neg h.1, putF_new r h.2]
    rfl
theorem putF_old {f : Str} {v : V} : ∀ (fs : List (Str × V)), hasS (fs.map (·.1)) f = true → (putF f v fs).map (·.1) = fs.map (·.1) ∧ (putF f v fs).map (·.2) = (fs.map (·.2)).set (posS (fs.map (·.1)) f) v
  | [], h => by simp [hasS] at h
  | (g, x) :: r, h => by
    unfold putF
    by_cases e : g = f
    · subst e
      simp [posS]
    · rw [if_neg e]
      have h2 : hasS (r.map (·.1)) f = true := by
        simp only [hasS, List.map_cons, List.any_cons, Bool.or_eq_true, decide_eq_true_eq] at h
        rcases h with h | h
        · exact absurd h e
        · exact h
      obtain ⟨a1, a2⟩ := putF_old (v := v) r h2
      simp [posS, e, a1, a2]
def setFld (ns : List Str) (os : List O) (f : Str) (o : O) : List Str × List O := match hasS ns f with
  | true => (ns, os.set (posS ns f) o)
  | false => (ns ++ [f], os ++ [o])
theorem SRep.setFld {K : PySem.W.Frag} {G H : Hp} {L : Lab} {σ : St} {ρ : Rho} {v : V} {o : O} (h : SRep K cl (σ ++ [some v]) H G L (ρ ++ [some o])) {i c : Nat} {ns : List Str} {os : List O} {f : Str} (e : ρ[i]? = some (some (.obj c ns os))) :
    ∃ a dx fs, σ[i]? = some (some (.ref a)) ∧ H a = some (.ins (cl c) dx fs) ∧ fs.length = ns.length ∧ ∃ L', SRep K cl σ (upd H a (.ins (cl c) dx (putF f v fs))) G L' (ρ.set i (some (.obj c (PI.setFld ns os f o).1 (PI.setFld ns os f o).2))) ∧
      Frame H G L (upd H a (.ins (cl c) dx (putF f v fs))) G L' := by
  have hl : σ.length = ρ.length := by simpa using h.len
  have hi := (List.getElem?_eq_some_iff.mp e).1
  obtain ⟨a, dx, fs, e1, la, ha, hn, r⟩ := h.obj_at (i := i) (by rw [List.getElem?_append_left hi]; exact e)
  rw [List.getElem?_append_left (by omega)] at e1
  have rt := h.rep.rep ρ.length v o (rootsOf_some.mpr ⟨by rw [List.getElem?_append_right (by omega), show ρ.length - σ.length = 0 by omega]; rfl, by rw [List.getElem?_append_right (by omega), Nat.sub_self]; rfl⟩)
  have hne : ∀ b q, L b = some (i :: q) → q ≠ [] → b ≠ a := fun b q l n z => by rw [z, la] at l; cases l; exact n rfl
  have fl : fs.length = ns.length := by rw [← hn]; simp
  have ol : os.length = ns.length := by have := RepOs.length r; simp at this; omega
  let k := if hasS ns f = true then posS ns f else os.length
  have tmp : RepO K cl G (upd H a (.ins (cl c) dx (putF f v fs))) (graftL L ρ.length i k) ([i] ++ [k]) v o := by
    have := RepO.move (L := L) (H := H) (L' := graftL L ρ.length i k) (H' := upd H a (.ins (cl c) dx (putF f v fs))) (G' := G) (p := [ρ.length]) (p' := [i] ++ [k]) Le.refl (fun b q l => ⟨graft_tmp l, fun x hx => by
      have : b ≠ a := fun z => by rw [z, la] at l; cases l; omega
      rw [upd_ne this]; exact hx⟩) o v [] (by simpa using rt)
    simpa using this
  have rnew : RepOs K cl G (upd H a (.ins (cl c) dx (putF f v fs))) (graftL L ρ.length i k) [i] 0 ((putF f v fs).map (·.2)) (PI.setFld ns os f o).2 ∧ (putF f v fs).map (·.1) = (PI.setFld ns os f o).1 := by
    unfold PI.setFld
    cases q : hasS ns f with
    | true =>
      obtain ⟨p1, p2⟩ := putF_old (v := v) fs (by rw [hn]; exact q)
      rw [hn] at p1 p2
      refine ⟨?_, p1⟩
      rw [p2]
      have ek : k = posS ns f := if_pos q
      rw [← ek]
      exact RepOs.kid (p := [i]) (j0 := k) Le.refl (fun b j r n l => ⟨graft_kid l (by omega) n, fun x hx => by rw [upd_ne (hne b _ l (by simp))]; exact hx⟩) tmp os _ 0 k (by omega) r
    | false =>
      have p1 := putF_new (v := v) fs (by rw [hn]; exact q)
      rw [p1]
      refine ⟨?_, by simp [hn]⟩
      rw [List.map_append]
      have ek : k = os.length := if_neg (by rw [q]; exact Bool.false_ne_true)
      have : ∀ (xs : List O) (ws : List V) (i0 : Nat), i0 + xs.length = os.length → RepOs K cl G H L [i] i0 ws xs → RepOs K cl G (upd H a (.ins (cl c) dx (fs ++ [(f, v)]))) (graftL L ρ.length i k) [i] i0 ws xs := by
        intro xs
        induction xs with
        | nil => intro ws i0 _ r; exact r
        | cons x xs ih =>
          intro ws i0 hn ⟨w, ws', e, r, rs⟩
          simp only [List.length_cons] at hn
          refine ⟨w, ws', e, ?_, ih ws' (i0 + 1) (by omega) rs⟩
          have := RepO.move (L := L) (H := H) (L' := graftL L ρ.length i k) (H' := upd H a (.ins (cl c) dx (fs ++ [(f, v)]))) (G' := G) (p := [i] ++ [i0]) (p' := [i] ++ [i0]) Le.refl (fun b q l => ⟨graft_kid l (by omega) (by omega), fun y hy => by rw [upd_ne (hne b _ l (by simp))]; exact hy⟩) x w [] (by simpa using r)
          simpa using this
      refine RepOs.snoc os _ 0 (this os _ 0 (by omega) r) ?_
      rw [p1] at tmp
      rw [show 0 + os.length = k by omega]
      exact tmp
  obtain ⟨s, f'⟩ := h.graft (ho := .ins (cl c) dx (putF f v fs)) (t := .obj c (PI.setFld ns os f o).1 (PI.setFld ns os f o).2) (fun xs z => by cases z) hi la e1 ⟨_, e⟩ ⟨a, dx, _, rfl, graft_root la (by omega), upd_same, rnew.2, rnew.1⟩
  exact ⟨a, dx, fs, e1, ha, fl, _, s, f'⟩
/-- x.f = e, x a name of an owned instance -/
def sFldO (ok : Nat → Bool) (i : Nat) (f : Str) (g : MO) : MS := fun ρ => match g ρ with
  | some (o, ρ1) => (match ρ1[i]? with
    | some (some (.obj c ns os)) => (match ok c && decide (ns.length < 1000) with
      | true => some (.nx, ρ1.set i (some (.obj c (setFld ns os f o).1 (setFld ns os f o).2)))
      | false => none)
    | _ => none)
  | none => none
theorem ss_fld (i : Nat) {x f : Str} {xp : Pos} {g : MO} {ok : Nat → Bool} (hok : ∀ c, ok c = true → Cls X.K (cl c) ∧ NoAttr X.K (cl c) f) (he : SO X cl e g) (hx : PE X (.Name x xp) (tVar i)) (hs : swapsWith e (some (.Attribute (.Name x xp) f pos')) pos.line X.env = pure false := by rfl) :
    SS X cl pr (.Assign [.Attribute (.Name x xp) f pos'] e pos) (sFldO ok i f g) := PS.weak (ps_fld hx he hs) fun D σ H ⟨G, L, ρ, fl, ρ', hs, hg, q⟩ => by
  unfold sFldO at hg
  split at hg
  · rename_i o ρ1 e1
    split at hg
    · rename_i c ns os e2
      split at hg
      · rename_i z
        cases hg
        obtain ⟨z1, z2⟩ := Bool.and_eq_true_iff.mp z
        obtain ⟨c1, c2⟩ := hok _ z1
        refine ⟨G, L, ρ, o, ρ1, hs, e1, fun v H1 G1 L1 s1 f1 => ?_⟩
        obtain ⟨p, dx, fs, d1, d2, d3, L4, s4, f4⟩ := SRep.setFld (f := f) s1 e2
        exact ⟨_, d1, p, _, dx, fs, rfl, d2, c1, c2, by rw [d3]; exact of_decide_eq_true z2, q σ _ G1 L4 s4 (f1.trans f4) Kp.refl⟩
      · cases hg
    · cases hg
  · cases hg
/-! ### instances made -/
structure Maker (P : Program) (w : World) (K : PySem.W.Frag) (mg : Str → Option Value) (base : Heap) (A : Around) (cl : Cl) (c : Nat) (x : Str) (fn : Fn) : Prop where
  ex : ∃ f fd ps k, FnOk P w K mg base CX0 k f fd ps (spOf K cl fn) ∧ Room (k + 1) A ∧ Mk K (cl c) f ∧ mg x = some (.ref (cl c)) ∧ Binds K fd ps []
def oNewD (c : Nat) (fn : Fn) (f : MDs) : MO := fun ρ => match f ρ with
  | some (ds, ρ1) => (match fn (.obj c [] [] :: ds.map .fz) with
    | some (.fz .non, some t :: as') => (match decide (as'.length = ds.length) with
      | true => some (t, ρ1)
      | false => none)
    | _ => none)
  | none => none
theorem setL_app {n : Nat} : ∀ (ds : List D) (os ρ : Rho) (o : Option O), setL (some ρ.length :: ds.map fun _ => none) (o :: os) (ρ ++ [some (.obj n [] [])]) = ρ ++ [o] := fun ds os ρ o => by
  unfold setL
  rw [setL_none]
  simp
theorem so_newD {c : Nat} {x : Str} {p : Pos} {fn : Fn} {f : MDs} (M : Maker X.prog X.w X.K X.mg X.base X.A cl c x fn) (ha : SDs X cl (e :: es) f) (hg : Gl X x := by rfl) (hdb : (x == ("__debug__" : Str)) = false := by decide)
    (he : starEach (e :: es) X.env = (false, eval e X.env) :: starEach es X.env := by rfl) (hpl : (backTo pos (starEach es X.env)).any (·.1) = false := by rfl) : SO X cl (.Call (.Name x p) (e :: es) [] pos) (oNewD c fn f) := by
  obtain ⟨a, fd, ps, k, F, hr, hm, hx, hb⟩ := M.ex
  refine PE.weak (pe_make hm F hr hg hx hb .nil pass0 ha hdb he hpl) fun σ H Q ⟨G, L, ρ, o, ρ', hs, hg, q⟩ => ?_
  unfold oNewD at hg
  split at hg
  · rename_i ds ρ1 e1
    split at hg
    · rename_i t as' e2
      split at hg
      · rename_i z
        cases hg
        have z := of_decide_eq_true z
        refine ⟨G, L, ρ, ds, _, hs, e1, fun vs H1 G1 L1 s1 r1 f1 => ?_⟩
        intro y dy hy hdy hne
        show spOf X.K cl fn (.ref y :: (vs ++ [])) _ _ E0
        rw [List.append_nil]
        have g0 : ∀ p, H1 p = none → G1 p = none ∧ L1 p = none := fun p hp => by
          refine ⟨?_, ?_⟩
          · cases w : G1 p with
            | none => rfl
            | some x =>
              have := s1.le p x w
              rw [hp] at this
              cases this
          · cases w : L1 p with
            | none => rfl
            | some x =>
              obtain ⟨_, u, hu⟩ := s1.rep.sep p x w
              rw [hp] at hu
              cases hu
        have s2 := s1.other (p := dy) (o := .own y) (g0 dy hdy).2 (g0 dy hdy).1 (fun xs e => by cases e)
        have hy2 : upd H1 dy (.own y) y = none := by rw [upd_ne (Ne.symm hne)]; exact hy
        obtain ⟨s3, f3⟩ := s2.pushNew hy2 (ho := .ins (cl c) dy []) (t := .obj c [] []) (fun xs e => by cases e) ⟨y, dy, [], rfl, by unfold updL; rw [if_pos rfl], upd_same, rfl, rfl⟩
        -- the instance is a slot of its own; its argument stands beside without a tree
        have s4 : SRep X.K cl ((σ ++ [some (.ref y)]) ++ [some (.ref y)]) (upd (upd H1 dy (.own y)) y (.ins (cl c) dy [])) G1 (updL L1 y [ρ'.length]) ((ρ' ++ [some (.obj c [] [])]) ++ [none]) := by
          refine ⟨by simp [s1.len], fun j o' e' => ?_, ?_⟩
          · rw [get_app] at e' ⊢
            rw [s3.len]
            split at e'
            · rename_i z
              rw [if_pos z]
              exact s3.all j o' e'
            · split at e' <;> cases e'
          · have : rootsOf ((σ ++ [some (.ref y)]) ++ [some (.ref y)]) ((ρ' ++ [some (.obj c [] [])]) ++ [none]) = rootsOf (σ ++ [some (.ref y)]) (ρ' ++ [some (.obj c [] [])]) := by
              funext j
              rw [rootsOf_app s3.len]
              split
              · rfl
              · rename_i z
                have e9 : rootsOf (σ ++ [some (.ref y)]) (ρ' ++ [some (.obj c [] [])]) j = none := rootsOf_ge (by omega)
                rw [e9]
                cases q : j - (ρ' ++ [some (O.obj c [] [])]).length with
                | zero => rfl
                | succ n => rfl
            rw [this]
            exact s3.rep
        have s5 := s4.pushes ds vs r1
        have f13 : Frame H1 G1 L1 (upd (upd H1 dy (.own y)) y (.ins (cl c) dy [])) G1 (updL L1 y [ρ'.length]) := ⟨fun b x hb hl => by
          have h1 : b ≠ y := fun z => by rw [z, hy] at hb; cases hb
          have h2 : b ≠ dy := fun z => by rw [z, hdy] at hb; cases hb
          refine ⟨by rw [upd_ne h1, upd_ne h2]; exact hb, by unfold updL; rw [if_neg h1]; exact hl, id⟩, Le.refl⟩
        refine call_core (σ := σ ++ [some (.ref y)]) (ρ := ρ' ++ [some (.obj c [] [])]) (ω := none :: ds.map fun d => some (.fz d)) (ks := some ρ'.length :: ds.map fun _ => none) (vs := .ref y :: vs) (as := .obj c [] [] :: ds.map .fz) (r := .fz .non) (as' := some o :: as')
          (by simp [lendOk, lendOk_none ds]) (by simpa using s5) s3.len (fun k i h => ?_) (by simp [gather, gather_fz]) e2 (by simp [z]) fun v H2 G2 L2 s6 f6 => ?_
        · cases k with
          | zero =>
            simp at h
            subst h
            exact ⟨.ref y, rfl, by rw [get_app, s1.len]; simp⟩
          | succ k => simp at h
        · rw [setL_app] at s6
          have hv : v = .non := by
            have := s6.rep.rep (ρ' ++ [some o]).length v (.fz .non) (rootsOf_some.mpr ⟨by rw [get_app]; simp [s1.len], by rw [get_app]; simp⟩)
            exact this
          obtain ⟨G3, L3, s7, _, f7⟩ := s6.pop
          exact ⟨hv, q _ H2 G3 L3 s7 (((f1.trans f13).trans f6).trans f7)⟩
      · cases hg
    · cases hg
  · cases hg
end
end PI
set_option Elab.async false
set_option linter.all false
set_option maxRecDepth 100000
set_option maxHeartbeats 1000000
set_option autoImplicit false
/-! PI13: dict displays; defs. -/
namespace PI
open PySem PySem.Spec L2
section
variable {X : Cx} {cl : Cl} {e a b c o tg ix : Expr} {es rest : List Expr} {pos pos' apos : Pos}
def SPs (X : Cx) (cl : Cl) (pos : Pos) (keys : List (Option Expr)) (values : List Expr) (prs : List (MD × MD)) : Prop := PPs X pos keys values (prs.map fun p => (tD X cl p.1, tD X cl p.2))
theorem sps_nil : SPs X cl pos [] [] [] := pps_nil
theorem sps_cons {k v : Expr} {ks : List (Option Expr)} {vs : List Expr} {gk gv : MD} {prs : List (MD × MD)} (hk : SD X cl k gk) (hv : SD X cl v gv) (hr : SPs X cl pos ks vs prs) : SPs X cl pos (some k :: ks) (v :: vs) ((gk, gv) :: prs) := pps_cons hk hv hr
def evPairs : List (MD × MD) → Rho → Option (List Key × List D × Rho)
  | [], ρ => some ([], [], ρ)
  | (gk, gv) :: prs, ρ => (match gk ρ with
    | some (k, ρ1) => (match gv ρ1 with
      | some (d, ρ2) => (match keyD k, evPairs prs ρ2 with
        | some j, some (ks, ds, ρ3) => some (j :: ks, d :: ds, ρ3)
        | _, _ => none)
      | none => none)
    | none => none)
theorem pairs_read : ∀ (prs : List (MD × MD)) {σ : St} {H G : Hp} {L : Lab} {ρ ρ' : Rho} {ks : List Key} {ds : List D} {Q : List (V × V) → Hp → Prop}, SRep X.K cl σ H G L ρ → evPairs prs ρ = some (ks, ds, ρ') →
    (∀ (kvs : List (Key × V)) (H' G' : Hp) (L' : Lab), SRep X.K cl σ H' G' L' ρ' → Frame H G L H' G' L' → kvs.map (·.1) = ks → RepVs X.K cl G' (kvs.map (·.2)) ds → Q (kvs.map fun kv => (kV kv.1, kv.2)) H') → tPairs (prs.map fun p => (tD X cl p.1, tD X cl p.2)) σ H Q
  | [], σ, H, G, L, ρ, ρ', ks, ds, Q, s, e, q => by
    cases e
    exact q [] H G L s Frame.refl rfl rfl
  | (gk, gv) :: prs, σ, H, G, L, ρ, ρ', ks, ds, Q, s, e, q => by
    simp only [evPairs] at e
    split at e
    · rename_i k ρ1 e1
      split at e
      · rename_i d ρ2 e2
        split at e
        · rename_i j ks' ds' ρ3 e3 e4
          cases e
          refine ⟨G, L, ρ, k, ρ1, s, e1, fun kv H1 G1 L1 s1 r1 f1 => ⟨G1, L1, ρ1, d, ρ2, s1, e2, fun dv H2 G2 L2 s2 r2 f2 => ?_⟩⟩
          refine pairs_read prs s2 e4 fun kvs H3 G3 L3 s3 f3 hk hr => ?_
          have ek := keyD_ok e3 r1
          subst ek
          exact q ((j, dv) :: kvs) H3 G3 L3 s3 ((f1.trans f2).trans f3) (by simp [hk]) ⟨dv, _, rfl, r2.mono f3.le, hr⟩
        · cases e
      · cases e
    · cases e
def nodupK : List Key → Bool
  | [] => true
  | k :: ks => !hasK ks k && nodupK ks
theorem putK_fresh {kvs : List (Key × V)} {k : Key} {v : V} (h : hasK (kvs.map (·.1)) k = false) : putK kvs k v = kvs ++ [(k, v)] := by
  have any : (kvs.any fun kv => decide (kv.1 = k)) = false := by
    rw [← h]
    unfold hasK
    rw [List.any_map]
    rfl
  unfold putK
  rw [any, if_neg Bool.false_ne_true]
theorem merge_app : ∀ (more kvs : List (Key × V)), nodupK (more.map (·.1)) = true → (∀ k ∈ more.map (·.1), hasK (kvs.map (·.1)) k = false) → mergeK kvs more = kvs ++ more
  | [], kvs, _, _ => by simp [mergeK]
  | (k, v) :: more, kvs, h, h2 => by
    have h3 : hasK (more.map (·.1)) k = false ∧ nodupK (more.map (·.1)) = true := by simpa [nodupK] using h
    have e1 : mergeK kvs ((k, v) :: more) = mergeK (putK kvs k v) more := rfl
    rw [e1, putK_fresh (h2 k (by simp))]
    rw [merge_app more (kvs ++ [(k, v)]) h3.2 fun k' hk' => ?_]
    · simp
    · unfold hasK
      rw [List.map_append, List.any_append]
      have := h2 k' (by simp at hk' ⊢; exact .inr hk')
      unfold hasK at this
      rw [this, Bool.false_or]
      simp only [List.map_cons, List.map_nil, List.any_cons, List.any_nil, Bool.or_false, decide_eq_false_iff_not]
      rintro rfl
      have := h3.1
      unfold hasK at this
      rw [List.any_eq_false] at this
      exact absurd (decide_eq_true rfl) (this k hk')
def oDisp (prs : List (MD × MD)) : MO := fun ρ => match evPairs prs ρ with
  | some (ks, ds, ρ1) => (match nodupK ks && decide (ds.length ≤ 15) with
    | true => some (.dct ks (ds.map .fz), ρ1)
    | false => none)
  | none => none
theorem so_disp {keys : List (Option Expr)} {values : List Expr} {prs : List (MD × MD)} (h : SPs X cl pos keys values prs) (hall : keys.all (·.isSome) = true := by rfl) (hl : keys.length = values.length := by rfl) (h0 : keys ≠ [] := by intro z; cases z) (h15 : keys.length ≤ 15 := by decide) :
    SO X cl (.Dict keys values pos) (oDisp prs) := PE.weak (pe_disp h hall hl h0 h15) fun σ H Q ⟨G, L, ρ, o, ρ', hs, hg, q⟩ => by
  unfold oDisp at hg
  split at hg
  · rename_i ks ds ρ1 e1
    split at hg
    · rename_i z
      cases hg
      obtain ⟨z1, z2⟩ := Bool.and_eq_true_iff.mp z
      have z2 := of_decide_eq_true z2
      intro p hp
      have gp : G p = none := by
        cases w : G p with
        | none => rfl
        | some x =>
          have := hs.le p x w
          rw [hp] at this
          cases this
      have lp : L p = none := by
        cases w : L p with
        | none => rfl
        | some x =>
          obtain ⟨_, u, hu⟩ := hs.rep.sep p x w
          rw [hp] at hu
          cases hu
      have s1 := hs.other (p := p) (o := .dK []) lp gp (fun xs e => by cases e)
      refine pairs_read prs s1 e1 fun kvs H2 G2 L2 s2 f2 hk hr => ?_
      obtain ⟨d1, d2, d3⟩ := f2.keep p _ upd_same lp
      have gp2 := d3 gp
      have hn : kvs.length = ds.length := by have := hr.length; simpa using this
      refine ⟨d1, kvs, rfl, by omega, ?_⟩
      rw [merge_app kvs [] (by rw [hk]; exact z1) (fun k _ => rfl), List.nil_append]
      have ne : ∀ b x, H b = some x → b ≠ p := fun b x e z => by rw [z, hp] at e; cases e
      -- p becomes a root
      refine q (.ref p) _ G2 (updL L2 p [ρ'.length]) ⟨by simp [s2.len], fun i o e => ?_, ⟨fun b x hb => ?_, fun b t l => ?_, fun b xs e => ?_, fun i v o e => ?_, fun b t l => ?_⟩⟩ ⟨fun b x e l => ?_, ?_⟩
      · rw [get_app] at e ⊢
        rw [s2.len]
        split at e
        · rename_i z
          rw [if_pos z]
          exact s2.all i o e
        · rename_i z
          rw [if_neg z]
          split at e
          · rename_i z2
            rw [if_pos z2]
            exact ⟨_, rfl⟩
          · cases e
      · rw [upd_ne (fun z => by rw [z, gp2] at hb; cases hb)]
        exact s2.le b x hb
      · unfold updL at l
        split at l
        · rename_i z
          subst z
          exact ⟨gp2, _, upd_same⟩
        · rename_i z
          obtain ⟨g, x, hx⟩ := s2.rep.sep b t l
          exact ⟨g, x, by rw [upd_ne z]; exact hx⟩
      · by_cases z : b = p
        · subst z
          rw [upd_same] at e
          cases e
        · rw [upd_ne z] at e
          exact s2.rep.imm b xs e
      · rw [rootsOf_app s2.len] at e
        split at e
        · have := RepO.move (L := L2) (H := H2) (L' := updL L2 p [ρ'.length]) (H' := upd H2 p (.dK kvs)) (G' := G2) (p := [i]) (p' := [i]) Le.refl (fun a q l => by
            have : a ≠ p := fun z => by rw [z, d2] at l; cases l
            refine ⟨?_, fun x hx => by rw [upd_ne this]; exact hx⟩
            unfold updL
            rw [if_neg this]
            exact l) o v [] (by simpa using s2.rep.rep i v o e)
          simpa using this
        · rename_i z
          have : i = ρ'.length := by
            have e2 := (rootsOf_some.mp e).1
            have := (List.getElem?_eq_some_iff.mp e2).1
            have := s2.len
            simp at *
            omega
          subst this
          simp [rootsOf] at e
          obtain ⟨e1, e2⟩ := e
          subst e1 e2
          exact ⟨p, kvs, rfl, by unfold updL; rw [if_pos rfl], upd_same, hk, repOs_fz ds _ _ 0 hr⟩
      · unfold updL at l
        split at l
        · cases l
          refine ⟨_, _, rfl, ?_⟩
          rw [rootsOf_app s2.len, if_neg (by omega)]
          simp [rootsOf]
        · obtain ⟨i, r', e1, e2⟩ := s2.rep.own b t l
          refine ⟨i, r', e1, ?_⟩
          obtain ⟨⟨v1, o⟩, e3⟩ := Option.isSome_iff_exists.mp e2
          rw [rootsOf_app s2.len, if_pos (List.getElem?_eq_some_iff.mp (rootsOf_some.mp e3).2).1, e3]
          rfl
      · have n := ne b x e
        obtain ⟨a1, a2, a3⟩ := f2.keep b x (by rw [upd_ne n]; exact e) l
        refine ⟨by rw [upd_ne n]; exact a1, ?_, a3⟩
        unfold updL
        rw [if_neg n]
        exact a2
      · exact f2.le
    · cases hg
  · cases hg
end

/-! ### defs -/
def finA (pr : List Nat) : Nat → List O → Rho → Rho
  | j, a :: as, r :: ρ => (match pr.contains j with
    | true => r
    | false => some a) :: finA pr (j + 1) as ρ
  | _, _, _ => []
def argsOk (pr : List Nat) : Nat → List O → Bool
  | _, [] => true
  | j, .fz _ :: as => argsOk pr (j + 1) as
  | j, _ :: as => pr.contains j && argsOk pr (j + 1) as
def runDef (np n : Nat) (pr : List Nat) (body : MS) : Fn := fun as => match decide (as.length = np) && argsOk pr 0 as with
  | true => (match body (as.map some ++ List.replicate (n - np) none) with
    | some (.nx, ρ') => (match decide (n ≤ ρ'.length) with
      | true => some (.fz .non, finA pr 0 as ρ')
      | false => none)
    | some (.rt o, ρ') => (match decide (n ≤ ρ'.length) with
      | true => some (o, finA pr 0 as ρ')
      | false => none)
    | _ => none)
  | false => none
theorem argsOk_at {pr : List Nat} : ∀ (as : List O) (j i : Nat) (o : O), argsOk pr j as = true → as[i]? = some o → pr.contains (j + i) = false → ∃ d, o = .fz d
  | [], _, _, _, _, e, _ => by simp at e
  | .fz d :: as, j, 0, o, _, e, _ => by simp at e; exact ⟨d, e.symm⟩
  | .fz d :: as, j, i + 1, o, h, e, c => argsOk_at as (j + 1) i o (by simpa [argsOk] using h) (by simpa using e) (by rw [← c]; congr 1; omega)
  | .lst x :: as, j, 0, o, h, e, c => by simp [argsOk] at h; simp at c; exact absurd h.1 c
  | .dct _ _ :: as, j, 0, o, h, e, c => by simp [argsOk] at h; simp at c; exact absurd h.1 c
  | .obj _ _ _ :: as, j, 0, o, h, e, c => by simp [argsOk] at h; simp at c; exact absurd h.1 c
  | .tup _ :: as, j, 0, o, h, e, c => by simp [argsOk] at h; simp at c; exact absurd h.1 c
  | .lst x :: as, j, i + 1, o, h, e, c => argsOk_at as (j + 1) i o (by simp [argsOk] at h; exact h.2) (by simpa using e) (by rw [← c]; congr 1; omega)
  | .dct _ _ :: as, j, i + 1, o, h, e, c => argsOk_at as (j + 1) i o (by simp [argsOk] at h; exact h.2) (by simpa using e) (by rw [← c]; congr 1; omega)
  | .obj _ _ _ :: as, j, i + 1, o, h, e, c => argsOk_at as (j + 1) i o (by simp [argsOk] at h; exact h.2) (by simpa using e) (by rw [← c]; congr 1; omega)
  | .tup _ :: as, j, i + 1, o, h, e, c => argsOk_at as (j + 1) i o (by simp [argsOk] at h; exact h.2) (by simpa using e) (by rw [← c]; congr 1; omega)
theorem finA_length {pr : List Nat} : ∀ (as : List O) (ρ : Rho) (j : Nat), as.length ≤ ρ.length → (finA pr j as ρ).length = as.length
  | [], _, _, _ => by simp [finA]
  | a :: as, [], _, h => by simp at h
  | a :: as, r :: ρ, j, h => by simp [finA, finA_length as ρ (j + 1) (by simpa using h)]
theorem finA_at {pr : List Nat} : ∀ (as : List O) (ρ : Rho) (j i : Nat), i < as.length → as.length ≤ ρ.length → (finA pr j as ρ)[i]? = if pr.contains (j + i) = true then ρ[i]? else (as[i]?).map some
  | [], _, _, _, h, _ => by simp at h
  | a :: as, [], _, _, _, h => by simp at h
  | a :: as, r :: ρ, j, 0, _, _ => by
    simp only [finA]
    cases q : pr.contains (j + 0) with
    | true =>
      simp
    | false =>
      simp
  | a :: as, r :: ρ, j, i + 1, h, h2 => by
    simp only [finA]
    have := finA_at (pr := pr) as ρ (j + 1) i (by simpa using h) (by simpa using h2)
    rw [show j + (i + 1) = j + 1 + i by omega]
    simpa using this
section
variable {K : PySem.W.Frag} {cl : Cl} {G G0 H H0 : Hp} {L L0 : Lab} {σ : St} {ρ : Rho}
/-- a def's end: its arguments' trees, its answer -/
theorem SRep.finish {vs : List V} {as : List O} {pr : List Nat} {v : V} {o : O} (h0 : SRep K cl (vs.map some) H0 G0 L0 (as.map some)) (h : SRep K cl (σ ++ [some v]) H G L (ρ ++ [some o])) (hn : as.length ≤ ρ.length) (ok : argsOk pr 0 as = true)
    (kp : ∀ i ∈ pr, i < vs.length → σ[i]? = (vs.map some)[i]?) (hle : Le G0 G) : ∃ L', SRep K cl (vs.map some ++ [some v]) H G L' (finA pr 0 as ρ ++ [some o]) ∧ Frame H G L H G L' := by
  have hl : σ.length = ρ.length := by simpa using h.len
  have hv : vs.length = as.length := by simpa using h0.len
  have fl := finA_length (pr := pr) as ρ 0 hn
  let n := ρ.length
  let p := as.length
  let k : Nat → Option Nat := fun j => if j < p then (if pr.contains j = true then some j else none) else if j = p then some n else none
  let k' : Nat → Option Nat := fun i => if i = n then some p else if i < p then (if pr.contains i = true then some i else none) else none
  have hk : ∀ a b, k' a = some b ↔ k b = some a := fun a b => by
    simp only [k, k']
    constructor
    · intro e
      split at e
      · cases e
        rename_i z
        rw [if_neg (by omega), if_pos rfl, z]
      · split at e
        · split at e
          · cases e
            rename_i z1 z2 z3
            rw [if_pos z2, if_pos z3]
          · cases e
        · cases e
    · intro e
      split at e
      · split at e
        · cases e
          rename_i z1 z2
          rw [if_neg (by omega), if_pos z1, if_pos z2]
        · cases e
      · split at e
        · cases e
          rename_i z1 z2
          rw [if_pos rfl, z2]
        · cases e
  have at_ : ∀ j, j < p → (finA pr 0 as ρ)[j]? = if pr.contains j = true then ρ[j]? else (as[j]?).map some := fun j hj => by
    have := finA_at (pr := pr) as ρ 0 j hj hn
    rw [Nat.zero_add] at this
    exact this
  have sub := h.rep.sub k k' hk
  have kp2 : ∀ j, j < p → pr.contains j = true → (vs.map some)[j]? = σ[j]? := fun j hj hc => (kp j (by simpa using hc) (by omega)).symm
  refine ⟨subL L k', ⟨by simp; omega, fun i o' e => ?_, ⟨sub.ge, sub.sep, sub.imm, fun i w o' e => ?_, fun b q l => ?_⟩⟩, ⟨fun b x e l => ⟨e, by unfold subL; rw [l], id⟩, Le.refl⟩⟩
  · rw [get_app] at e ⊢
    simp only [List.length_map]
    rw [fl] at e
    rw [hv]
    split at e
    · rename_i z
      rw [if_pos z]
      have hi : i < vs.length := by omega
      exact ⟨vs[i], by rw [List.getElem?_map, List.getElem?_eq_getElem hi]; rfl⟩
    · rename_i z
      rw [if_neg z]
      split at e
      · rename_i z2
        rw [if_pos z2]
        exact ⟨v, rfl⟩
      · cases e
  · rw [rootsOf_app (by simp; omega), fl] at e
    split at e
    · rename_i z
      obtain ⟨e1, e2⟩ := rootsOf_some.mp e
      rw [at_ i z] at e2
      split at e2
      · rename_i z2
        rw [kp2 i z z2] at e1
        refine sub.rep i w o' ?_
        have ek : k i = some i := by simp only [k]; rw [if_pos z, if_pos z2]
        rw [ek]
        show rootsOf (σ ++ [some v]) (ρ ++ [some o]) i = _
        rw [rootsOf_app hl, if_pos (by omega)]
        exact rootsOf_some.mpr ⟨e1, e2⟩
      · rename_i z2
        have e3 : as[i]? = some o' := by
          cases q : as[i]? with
          | none => rw [q] at e2; cases e2
          | some y => rw [q] at e2; simp at e2; rw [e2]
        obtain ⟨d, rfl⟩ := argsOk_at as 0 i o' ok e3 (by rw [Nat.zero_add]; simpa using z2)
        have r := h0.rep.rep i w (.fz d) (rootsOf_some.mpr ⟨e1, by rw [List.getElem?_map, e3]; rfl⟩)
        exact RepV.mono hle d w r
    · rename_i z
      have : i = p := by
        have e2 := (rootsOf_some.mp e).1
        have := (List.getElem?_eq_some_iff.mp e2).1
        simp at this
        omega
      subst this
      have e : rootsOf [some v] [some o] (p - p) = some (w, o') := e
      rw [Nat.sub_self] at e
      have e : some (v, o) = some (w, o') := e
      cases e
      refine sub.rep p v o ?_
      have ek : k p = some n := by simp only [k]; rw [if_neg (Nat.lt_irrefl _)]; simp [p]
      rw [ek]
      show rootsOf (σ ++ [some v]) (ρ ++ [some o]) n = _
      rw [rootsOf_app hl, if_neg (Nat.lt_irrefl _)]
      simp [rootsOf, n]
  · obtain ⟨j, r, e1, e2⟩ := sub.own b q l
    refine ⟨j, r, e1, ?_⟩
    simp only [k] at e2
    rw [rootsOf_app (by simp; omega), fl]
    split at e2
    · rename_i z
      rw [if_pos z]
      split at e2
      · rename_i z2
        have e2 : (rootsOf (σ ++ [some v]) (ρ ++ [some o]) j).isSome = true := e2
        rw [rootsOf_app hl, if_pos (by omega)] at e2
        obtain ⟨⟨w, o'⟩, e3⟩ := Option.isSome_iff_exists.mp e2
        obtain ⟨e4, e5⟩ := rootsOf_some.mp e3
        rw [rootsOf_some.mpr ⟨by rw [kp2 j z z2]; exact e4, by rw [at_ j z, if_pos z2]; exact e5⟩]
        rfl
      · cases e2
    · rename_i z
      rw [if_neg z]
      split at e2
      · rename_i z2
        subst z2
        show (rootsOf [some v] [some o] (p - p)).isSome = true
        rw [Nat.sub_self]
        rfl
      · cases e2
end
/-- THE RULE for a def -/
theorem def_ok {P : Program} {w : World} {K : PySem.W.Frag} {mg : Str → Option Value} {base : Heap} {cl : Cl} {x qual : Str} {params : Arguments} {body : List Stmt} {scope : Scope} {f : Addr} {fd : FuncData} {N ps : List Str} {k np n : Nat} {pr : List Nat} {g : MS}
    (F : FunD K x qual params body scope [] [] f fd) (S : FnScope N ps scope) (h1 : ps.length = np) (h2 : N.length = n) (h3 : np ≤ n)
    (der : ∀ (cdv : Value) (A : Around) (outer : List PySem.Env) (s : Shared) (H : Hp) (E : XK), Room k (A.deeper (PyProof.Rows.envOfC qual scope s.heap.objs.size f cdv)) → SSs (cxOf CX0 P w K mg base N qual scope f cdv A outer s H E).nox cl pr body g) :
    FnOk P w K mg base CX0 (k + 1) f fd ps (spOf K cl (runDef np n pr g)) := by
  refine F.ok S (fun vs H Q E h => ?_) (fun cdv A outer s H vs Q E hr h => ⟨_, PSs.nox (der cdv A outer s H E hr), ?_⟩)
  · obtain ⟨G, L, as, r, as', hs, e, _⟩ := h
    unfold runDef at e
    split at e
    · rename_i z
      have z := of_decide_eq_true (Bool.and_eq_true_iff.mp z).1
      have := hs.len
      simp at this
      omega
    · cases e
  · obtain ⟨G, L, as, r, as', hs, e, el, q⟩ := h
    unfold runDef at e
    split at e
    · rename_i z
      obtain ⟨z1, z2⟩ := Bool.and_eq_true_iff.mp z
      have z1 := of_decide_eq_true z1
      have hv : vs.length = as.length := by simpa using hs.len
      -- the frame's slots
      have s0 : SRep K cl (L2.start N vs) H G L (as.map some ++ List.replicate (n - np) none) := by
        unfold L2.start
        refine ⟨by simp; omega, fun i o' e' => ?_, ?_⟩
        · by_cases hi : i < as.length
          · exact ⟨vs[i], by rw [List.getElem?_append_left (by simp; omega)]; simp [List.getElem?_eq_getElem (show i < vs.length by omega)]⟩
          · rw [List.getElem?_append_right (by simp; omega)] at e'
            have := List.mem_of_getElem? e'
            simp at this
        · have : rootsOf (vs.map some ++ List.replicate (N.length - vs.length) none) (as.map some ++ List.replicate (n - np) none) = rootsOf (vs.map some) (as.map some) := by
            funext i
            rw [rootsOf_app (by simp; omega)]
            split
            · rfl
            · rename_i y
              rw [rootsOf_ge (ρ := as.map some) (by omega)]
              cases q : rootsOf (List.replicate (N.length - vs.length) none) (List.replicate (n - np) none) (i - (as.map some).length) with
              | none => rfl
              | some pq =>
                have := (rootsOf_some.mp q).2
                have := List.mem_of_getElem? this
                simp at this
          rw [this]
          exact hs.rep
      have hlen : (L2.start N vs).length = n := by unfold L2.start; simp; omega
      have fin : ∀ (v : V) (σ' : St) (H' G' : Hp) (L' : Lab) (ρ' : Rho) (o : O), SRep K cl (σ' ++ [some v]) H' G' L' (ρ' ++ [some o]) → Frame H G L H' G' L' → Kp pr (L2.start N vs) σ' → as'= finA pr 0 as ρ' → r = o → n ≤ ρ'.length → Q v H' := fun v σ' H' G' L' ρ' o s' f' kp e1 e2 hn => by
        subst e1 e2
        obtain ⟨L2, s2, f2⟩ := SRep.finish (pr := pr) hs s' (by omega) z2 (fun i hi hlt => by
          rw [kp i hi]
          unfold L2.start
          rw [List.getElem?_append_left (by simp; omega)]) f'.le
        exact q v H' G' L2 s2 (f'.trans f2)
      split at e
      · rename_i ρ' e1
        split at e
        · rename_i hn
          cases e
          have hn := of_decide_eq_true hn
          refine ⟨G, L, _, .nx, ρ', s0, e1, fun σ' H' G' L' s' f' kp => ?_⟩
          exact fin .non σ' H' G' L' ρ' (.fz .non) (s'.push rfl) f' kp rfl rfl hn
        · cases e
      · rename_i o ρ' e1
        split at e
        · rename_i hn
          cases e
          have hn := of_decide_eq_true hn
          refine ⟨G, L, _, .rt r, ρ', s0, e1, fun v σ' H' G' L' s' f' kp => ?_⟩
          exact fin v σ' H' G' L' ρ' r s' f' kp rfl rfl hn
        · cases e
      · cases e
    · cases e
end PI
set_option Elab.async false
set_option linter.all false
set_option maxRecDepth 100000
set_option maxHeartbeats 1000000
set_option autoImplicit false
/-! PI14: the law's end; steps of the plain law. -/
namespace PI
open PySem PySem.Spec L2
theorem reps_ints {K : PySem.W.Frag} {cl : Cl} {G : Hp} : ∀ ns : List Int, RepVs K cl G (ns.map V.int) (ns.map D.int)
  | [] => rfl
  | n :: ns => ⟨.int n, ns.map V.int, rfl, rfl, reps_ints ns⟩
theorem law_sp {K : PySem.W.Frag} {cl : Cl} {fn : Fn} {a : Addr} {ns : List Int} {H : Hp} {E : XK} {as' : Rho} (hS : SqL K H a (ns.map V.int)) (h : fn [.fz (.rol (ns.map D.int))] = some (.fz (.bl true), as')) (hl : as'.length = 1) : spOf K cl fn [.ref a] H (fun v _ => v = .bl true) E := by
  refine ⟨H, fun _ => none, _, _, as', ⟨rfl, fun i o e => ?_, ⟨Le.refl, (fun b p l => by cases l), fun b xs e => e, fun i v o e => ?_, (fun b p l => by cases l)⟩⟩, h, hl, fun v H' G' L' s f => ?_⟩
  · match i, e with
    | 0, e => exact ⟨.ref a, rfl⟩
  · match i, e with
    | 0, e =>
      cases e
      exact ⟨a, _, rfl, hS, reps_ints ns⟩
  · have := s.rep.rep 1 v (.fz (.bl true)) (by
      match as', hl with
      | [x], _ => rfl)
    exact this
/-! ### steps -/
theorem seq_nx {g h : MS} {ρ ρ1 : Rho} {r : Option (Fl × Rho)} (e : g ρ = some (.nx, ρ1)) (e2 : h ρ1 = r) : sSeq g h ρ = r := by
  unfold sSeq
  rw [e]
  exact e2
theorem seq_rt {g h : MS} {ρ ρ1 : Rho} {o : O} (e : g ρ = some (.rt o, ρ1)) : sSeq g h ρ = some (.rt o, ρ1) := by
  unfold sSeq
  rw [e]
theorem run_rt {np n : Nat} {pr : List Nat} {body : MS} {as : List O} {o : O} {ρ' : Rho} (e : body (as.map some ++ List.replicate (n - np) none) = some (.rt o, ρ')) (h1 : (decide (as.length = np) && argsOk pr 0 as) = true := by rfl) (h2 : decide (n ≤ ρ'.length) = true := by rfl) :
    runDef np n pr body as = some (o, finA pr 0 as ρ') := by
  unfold runDef
  rw [h1]
  dsimp only
  rw [e]
  dsimp only
  rw [h2]
theorem call2 {fn : Fn} {st st' : O} {r : O} {n : Int} {ρ : Rho} (h : fn [st, .fz (.int n)] = some (r, [some st', some (.fz (.int n))])) : mCall fn [some 0, none] (aLend 0 (aCons (oFz (mC (.int n))) aNil)) (some st :: ρ) = some (r, some st' :: ρ) := by
  simp [mCall, aLend, aCons, oFz, mC, aNil, gather, h, setL]
end PI
set_option Elab.async false
set_option linter.all false
set_option maxRecDepth 100000
set_option maxHeartbeats 1000000
set_option autoImplicit false
/-! PI15: code that is never reached; in, not in; isinstance; all, any; {}; get. -/
namespace PI
open PySem PySem.Spec L2
section
variable {X : Cx} {cl : Cl} {e a b c o tg ix : Expr} {es rest : List Expr} {pos pos' apos : Pos} {pr : List Nat}
/-! ### never reached: the meaning is none -/
theorem sd_dead {e : Expr} : SD X cl e (fun _ => none) := ⟨fun pins s σ H Q I ⟨G, L, ρ, d, ρ', hs, hg, q⟩ => by cases hg⟩
theorem so_dead {e : Expr} : SO X cl e (fun _ => none) := ⟨fun pins s σ H Q I ⟨G, L, ρ, d, ρ', hs, hg, q⟩ => by cases hg⟩
theorem ss_dead {st : Stmt} : SS X cl pr st (fun _ => none) := ⟨fun pins s σ H D I ⟨G, L, ρ, fl, ρ', hs, hg, q⟩ => by cases hg⟩
/-! ### in -/
def D.fv : D → Option V
  | .non => some .non
  | .bl b => some (.bl b)
  | .int i => some (.int i)
  | .str s => some (.str s)
  | _ => none
def fvs : List D → Option (List V)
  | [] => some []
  | d :: ds => (match d.fv, fvs ds with
    | some v, some vs => some (v :: vs)
    | _, _ => none)
theorem fv_ok {K : PySem.W.Frag} {G : Hp} {d : D} {v w : V} (e : d.fv = some w) (r : RepV K cl G v d) : v = w ∧ flatV w = true := by
  cases d <;> simp [D.fv] at e
  all_goals (subst e; exact ⟨r, rfl⟩)
theorem fvs_ok {K : PySem.W.Frag} {G : Hp} : ∀ {ds : List D} {vs ws : List V}, fvs ds = some ws → RepVs K cl G vs ds → vs = ws ∧ ws.all flatV = true
  | [], vs, ws, e, r => by
    cases e
    cases r
    exact ⟨rfl, rfl⟩
  | d :: ds, vs, ws, e, ⟨v, us, e0, r, rs⟩ => by
    simp only [fvs] at e
    split at e
    · rename_i w ws' e1 e2
      cases e
      obtain ⟨a1, a2⟩ := fv_ok e1 r
      obtain ⟨b1, b2⟩ := fvs_ok e2 rs
      subst e0 a1 b1
      exact ⟨rfl, by simp [a2, b2]⟩
    · cases e
/-- a text of one sign -/
def D.sgn : D → Option Nat
  | .str z => (match z.cps.toList with
    | [c] => some c
    | _ => none)
  | _ => none
theorem sgn_ok {d : D} {c : Nat} (e : d.sgn = some c) : d = .str ⟨#[c]⟩ := by
  cases d <;> simp only [D.sgn] at e
  case str z =>
    split at e
    · rename_i c' e1
      cases e
      obtain ⟨xs⟩ := z
      obtain ⟨l⟩ := xs
      simp at e1
      rw [e1]
    · cases e
  all_goals cases e
/-- x in y: flat items of a list or tuple, keys of a dict, a sign of a text -/
def dInB (x y : D) : Option Bool := match y with
  | .tup ds => (match x.fv, fvs ds with
    | some v, some vs => some (inV v vs)
    | _, _ => none)
  | .lst ds => (match x.fv, fvs ds with
    | some v, some vs => some (inV v vs)
    | _, _ => none)
  | .dct ks _ => (match keyD x with
    | some k => some (hasK ks k)
    | none => none)
  | .str z => (match x.sgn with
    | some c => some (decide (c ∈ z.cps.toList))
    | none => none)
  | _ => none
def dIn (x y : D) : Option D := match dInB x y with
  | some k => some (.bl k)
  | none => none
def dNotIn (x y : D) : Option D := match dInB x y with
  | some k => some (.bl !k)
  | none => none
def rInDk : R2 := fun x y H Q => ∃ a o, y = .ref a ∧ DGet H a x o ∧ Q (.bl o.isSome) H
def rNotInDk : R2 := fun x y H Q => ∃ a o, y = .ref a ∧ DGet H a x o ∧ Q (.bl (!o.isSome)) H
theorem op_inDk (hu : X.A.units + 1 < cLine) : OpR X (compareOp .In) rInDk := by
  intro pins s σ H x y v u Q I rx ry h
  obtain ⟨p, ov, ex, g, q2⟩ := h
  subst ex
  obtain rfl : u = Value.ref p := ry
  exact d_in hu I g rx fun s3 I3 => ⟨.bl ov.isSome, H, I3, rfl, q2⟩
theorem op_notInDk (hu : X.A.units + 1 < cLine) : OpR X (compareOp .NotIn) rNotInDk := by
  intro pins s σ H x y v u Q I rx ry h
  obtain ⟨p, ov, ex, g, q2⟩ := h
  subst ex
  obtain rfl : u = Value.ref p := ry
  exact d_notIn hu I g rx fun s3 I3 => ⟨.bl (!ov.isSome), H, I3, rfl, q2⟩
theorem hasK_val (k : Key) (kvs : List (Key × V)) : hasK (kvs.map (·.1)) k = (valV kvs k).isSome := by
  rw [← valV_any]
  unfold hasK
  rw [List.any_map]
  rfl
abbrev rInG (K : PySem.W.Frag) : R2 := fun x y H Q => rIn K false x y H Q ∨ rInDk x y H Q ∨ (fun x y H Q => ∃ (c : Nat) (z : Str), x = .str ⟨#[c]⟩ ∧ y = .str z ∧ Q (.bl (decide (c ∈ z.cps.toList))) H) x y H Q
abbrev rNotInG (K : PySem.W.Frag) : R2 := fun x y H Q => rIn K true x y H Q ∨ rNotInDk x y H Q ∨ (fun x y H Q => ∃ (c : Nat) (z : Str), x = .str ⟨#[c]⟩ ∧ y = .str z ∧ Q (.bl (!decide (c ∈ z.cps.toList))) H) x y H Q
theorem op_inG (hu : X.A.units + 1 < cLine) : OpR X (compareOp .In) (rInG X.K) := op_in_seq.or ((op_inDk hu).or op_in_sign)
theorem op_notInG (hu : X.A.units + 1 < cLine) : OpR X (compareOp .NotIn) (rNotInG X.K) := op_notIn_seq.or ((op_notInDk hu).or op_notIn_sign)
theorem ok_in {K : PySem.W.Frag} : R2Ok K cl (rInG K) dIn := fun G H x y dx dy d Q hle him rx ry e q => by
  unfold dIn dInB at e
  split at e
  · rename_i k e1
    cases e
    split at e1
    · rename_i ds
      split at e1
      · rename_i v vs f1 f2
        cases e1
        obtain ⟨p, us, rfl, hp, rs⟩ := ry
        obtain ⟨a1, a2⟩ := fv_ok f1 rx
        obtain ⟨b1, b2⟩ := fvs_ok f2 rs
        subst a1 b1
        exact .inl ⟨p, _, rfl, .inr (hle.tup hp).seq, a2, b2, q _ _ _ (Ext.refl hle) rfl⟩
      · cases e1
    · rename_i ds
      split at e1
      · rename_i v vs f1 f2
        cases e1
        obtain ⟨p, us, rfl, hp, rs⟩ := ry
        obtain ⟨a1, a2⟩ := fv_ok f1 rx
        obtain ⟨b1, b2⟩ := fvs_ok f2 rs
        subst a1 b1
        exact .inl ⟨p, _, rfl, .inl (SqL.of (hle _ _ hp)), a2, b2, q _ _ _ (Ext.refl hle) rfl⟩
      · cases e1
    · rename_i ks ds
      split at e1
      · rename_i j f1
        cases e1
        obtain ⟨p, kvs, rfl, hp, rfl, rs⟩ := ry
        have := keyD_ok f1 rx
        subst this
        exact .inr (.inl ⟨p, _, rfl, .inl ⟨kvs, j, hle.rd hp, rfl, rfl⟩, by rw [← hasK_val]; exact q _ _ _ (Ext.refl hle) rfl⟩)
      · cases e1
    · rename_i z
      split at e1
      · rename_i c f1
        cases e1
        have := sgn_ok f1
        subst this
        cases rx
        cases ry
        exact .inr (.inr ⟨c, z, rfl, rfl, q _ _ _ (Ext.refl hle) rfl⟩)
      · cases e1
    · cases e1
  · cases e
theorem ok_notIn {K : PySem.W.Frag} : R2Ok K cl (rNotInG K) dNotIn := fun G H x y dx dy d Q hle him rx ry e q => by
  unfold dNotIn dInB at e
  split at e
  · rename_i k e1
    cases e
    split at e1
    · rename_i ds
      split at e1
      · rename_i v vs f1 f2
        cases e1
        obtain ⟨p, us, rfl, hp, rs⟩ := ry
        obtain ⟨a1, a2⟩ := fv_ok f1 rx
        obtain ⟨b1, b2⟩ := fvs_ok f2 rs
        subst a1 b1
        exact .inl ⟨p, _, rfl, .inr (hle.tup hp).seq, a2, b2, q _ _ _ (Ext.refl hle) rfl⟩
      · cases e1
    · rename_i ds
      split at e1
      · rename_i v vs f1 f2
        cases e1
        obtain ⟨p, us, rfl, hp, rs⟩ := ry
        obtain ⟨a1, a2⟩ := fv_ok f1 rx
        obtain ⟨b1, b2⟩ := fvs_ok f2 rs
        subst a1 b1
        exact .inl ⟨p, _, rfl, .inl (SqL.of (hle _ _ hp)), a2, b2, q _ _ _ (Ext.refl hle) rfl⟩
      · cases e1
    · rename_i ks ds
      split at e1
      · rename_i j f1
        cases e1
        obtain ⟨p, kvs, rfl, hp, rfl, rs⟩ := ry
        have := keyD_ok f1 rx
        subst this
        exact .inr (.inl ⟨p, _, rfl, .inl ⟨kvs, j, hle.rd hp, rfl, rfl⟩, by rw [← hasK_val]; exact q _ _ _ (Ext.refl hle) rfl⟩)
      · cases e1
    · rename_i z
      split at e1
      · rename_i c f1
        cases e1
        have := sgn_ok f1
        subst this
        cases rx
        cases ry
        exact .inr (.inr ⟨c, z, rfl, rfl, q _ _ _ (Ext.refl hle) rfl⟩)
      · cases e1
    · cases e1
  · cases e
theorem sd_in {ga gb : MD} (hu : X.A.units + 1 < cLine) (ha : SD X cl a ga) (hb : SD X cl b gb) (hm : behindInMarks .In b = false := by rfl) : SD X cl (.Compare a [.In] [b] pos) (mOp2 dIn ga gb) := sd_cmp (op_inG hu) ok_in ha hb hm
theorem sd_notIn {ga gb : MD} (hu : X.A.units + 1 < cLine) (ha : SD X cl a ga) (hb : SD X cl b gb) (hm : behindInMarks .NotIn b = false := by rfl) : SD X cl (.Compare a [.NotIn] [b] pos) (mOp2 dNotIn ga gb) := sd_cmp (op_notInG hu) ok_notIn ha hb hm
theorem st_in {ga gb : MD} (hu : X.A.units + 1 < cLine) (ha : SD X cl a ga) (hb : SD X cl b gb) (hm : behindInMarks .In b = false := by rfl) : ST X cl (.Compare a [.In] [b] pos) (bOf (mOp2 dIn ga gb)) := st_cmp (op_inG hu) ok_in ha hb hm
theorem st_notIn {ga gb : MD} (hu : X.A.units + 1 < cLine) (ha : SD X cl a ga) (hb : SD X cl b gb) (hm : behindInMarks .NotIn b = false := by rfl) : ST X cl (.Compare a [.NotIn] [b] pos) (bOf (mOp2 dNotIn ga gb)) := st_cmp (op_notInG hu) ok_notIn ha hb hm
/-! ### isinstance -/
def D.ty : D → Option String
  | .non => some "NoneType"
  | .bl _ => some "bool"
  | .int _ => some "int"
  | .str _ => some "str"
  | .tup _ => some "tuple"
  | .lst _ => some "list"
  | _ => none
theorem ty_ok {K : PySem.W.Frag} {G H : Hp} {d : D} {v : V} {t : String} (hle : Le G H) (e : d.ty = some t) (r : RepV K cl G v d) : TyX K H v (.type t) := by
  cases d <;> simp [D.ty] at e
  case non => subst e; cases r; exact .base .non
  case bl b => subst e; cases r; exact .base (.bl b)
  case int i => subst e; cases r; exact .base (.int i)
  case str z => subst e; cases r; exact .base (.str z)
  case tup ds =>
    subst e
    obtain ⟨p, us, rfl, hp, rs⟩ := r
    rcases hp with hp | (hp | ⟨o, hp⟩) | ⟨o, its, n, hk, hc, _⟩
    · exact .base (.tup (hle _ _ hp))
    · cases hp
    · cases hp
    · exact .kTuple hk hc
  case lst ds =>
    subst e
    obtain ⟨p, us, rfl, hp, rs⟩ := r
    exact .base (.lst (hle _ _ hp))
def mIsi (T : String) (g : MD) : MD := fun ρ => match g ρ with
  | some (d, ρ1) => (match d.ty with
    | some t => (match kitB t T with
      | some k => some (.bl k, ρ1)
      | none => none)
    | none => none)
  | none => none
theorem sd_isi (T : String) {x : Str} {p p2 : Pos} {g : MD} (hm : X.mg "isinstance" = none) (ha : SD X cl a g) (hmT : X.mg x = none) (hv : bootBuiltins x = some (.type T)) (hgT : Gl X x := by rfl) (hg : Gl X "isinstance" := by rfl) (hn : x ≠ "__name__" := by decide) (hd : (x == ("__debug__" : Str)) = false := by decide)
    (hs : starEach [a, .Name x p2] X.env = (false, eval a X.env) :: starEach [.Name x p2] X.env := by rfl) (hs2 : starEach [.Name x p2] X.env = (false, eval (.Name x p2) X.env) :: starEach [] X.env := by rfl) (hpl : (backTo pos (starEach [.Name x p2] X.env)).any (·.1) = false := by rfl) :
    SD X cl (.Call (.Name "isinstance" p) [a, .Name x p2] [] pos) (mIsi T g) :=
  PE.weak (pe_callB call_isi hg hm (by decide +kernel) (pa_cons ha (pa_cons (pe_bltn (v := .ty T) hgT hmT hv rfl hn hd) pa_nil hs2) hs) (by decide) (by decide) hs hpl) fun σ H Q ⟨G, L, ρ, d, ρ', hs, hg, q⟩ => by
    unfold mIsi at hg
    split at hg
    · rename_i d' ρ1 e1
      split at hg
      · rename_i t e2
        split at hg
        · rename_i k e3
          cases hg
          exact ⟨G, L, ρ, d', _, hs, e1, fun v H1 G1 L1 s1 r1 f1 => ⟨v, .ty T, .type t, .type T, k, rfl, .ty T, ty_ok s1.le e2 r1, kit_ty e3, q _ _ _ _ s1 rfl f1⟩⟩
        · cases hg
      · cases hg
    · cases hg
/-! ### all, any -/
def blsD : List D → Option (List Bool)
  | [] => some []
  | .bl b :: ds => (match blsD ds with
    | some bs => some (b :: bs)
    | none => none)
  | _ => none
theorem bls_ok {K : PySem.W.Frag} {G : Hp} : ∀ {ds : List D} {vs : List V} {bs : List Bool}, blsD ds = some bs → RepVs K cl G vs ds → vs = bs.map V.bl
  | [], vs, bs, e, r => by
    cases e
    cases r
    rfl
  | .bl b :: ds, vs, bs, e, ⟨v, us, e0, r, rs⟩ => by
    simp only [blsD] at e
    split at e
    · rename_i bs' e1
      cases e
      have := bls_ok e1 rs
      subst e0 this
      cases r
      rfl
    · cases e
  | .non :: ds, _, _, e, _ => by simp [blsD] at e
  | .int _ :: ds, _, _, e, _ => by simp [blsD] at e
  | .str _ :: ds, _, _, e, _ => by simp [blsD] at e
  | .tup _ :: ds, _, _, e, _ => by simp [blsD] at e
  | .lst _ :: ds, _, _, e, _ => by simp [blsD] at e
  | .rol _ :: ds, _, _, e, _ => by simp [blsD] at e
  | .dct _ _ :: ds, _, _, e, _ => by simp [blsD] at e
  | .obj _ _ _ :: ds, _, _, e, _ => by simp [blsD] at e
def fAll : List D → Option D
  | [.lst ds] => (match blsD ds with
    | some bs => some (.bl (bs.all id))
    | none => none)
  | _ => none
def fAny : List D → Option D
  | [.lst ds] => (match blsD ds with
    | some bs => some (.bl (bs.any id))
    | none => none)
  | _ => none
theorem ok_all {K : PySem.W.Frag} : RnOk K cl (rAll K) fAll := fun G H xs ds d Q hle him r e q => by
  unfold fAll at e
  split at e
  · split at e
    · rename_i bs e1
      cases e
      obtain ⟨v, rfl, p, vs, rfl, hp, rv⟩ := one_val r
      have := bls_ok e1 rv
      subst this
      exact ⟨p, bs, rfl, SqL.of (hle _ _ hp), q _ _ _ (Ext.refl hle) rfl⟩
    · cases e
  · cases e
theorem ok_any {K : PySem.W.Frag} : RnOk K cl (rAny K) fAny := fun G H xs ds d Q hle him r e q => by
  unfold fAny at e
  split at e
  · split at e
    · rename_i bs e1
      cases e
      obtain ⟨v, rfl, p, vs, rfl, hp, rv⟩ := one_val r
      have := bls_ok e1 rv
      subst this
      exact ⟨p, bs, rfl, SqL.of (hle _ _ hp), q _ _ _ (Ext.refl hle) rfl⟩
    · cases e
  · cases e
theorem sd_all {p : Pos} {g : MD} (hm : X.mg "all" = none) (ha : SD X cl e g) (hc : X.calm = true := by rfl) (hg : Gl X "all" := by rfl) (he : starEach [e] X.env = [(false, eval e X.env)] := by rfl) : SD X cl (.Call (.Name "all" p) [e] [] pos) (mFn fAll (dsCons g dsNil)) :=
  sd_callB (cr_all hc) ok_all hm (by decide +kernel) (sds_cons ha sds_nil he) hg (by decide) (by decide) he (by rfl)
theorem sd_any {p : Pos} {g : MD} (hm : X.mg "any" = none) (ha : SD X cl e g) (hc : X.calm = true := by rfl) (hg : Gl X "any" := by rfl) (he : starEach [e] X.env = [(false, eval e X.env)] := by rfl) : SD X cl (.Call (.Name "any" p) [e] [] pos) (mFn fAny (dsCons g dsNil)) :=
  sd_callB (cr_any hc) ok_any hm (by decide +kernel) (sds_cons ha sds_nil he) hg (by decide) (by decide) he (by rfl)
end
end PI
set_option Elab.async false
set_option linter.all false
set_option maxRecDepth 100000
set_option maxHeartbeats 1000000
set_option autoImplicit false
/-! PI16: {}, dict comprehensions, get. -/
namespace PI
open PySem PySem.Spec L2
section
variable {K : PySem.W.Frag} {cl : Cl} {G G0 H H0 : Hp} {L L0 : Lab} {σ : St} {ρ : Rho}
theorem SRep.adoptD (h : SRep K cl σ H G L ρ) {p : Addr} {kvs : List (Key × V)} {ds : List D} (hp : H p = some (.dK kvs)) (lp : L p = none) (gp : G p = none) (r : RepVs K cl G (kvs.map (·.2)) ds) :
    SRep K cl (σ ++ [some (.ref p)]) H G (updL L p [ρ.length]) (ρ ++ [some (.dct (kvs.map (·.1)) (ds.map .fz))]) := by
  refine ⟨by simp [h.len], fun i o e => ?_, ⟨h.rep.ge, fun b q l => ?_, h.rep.imm, fun i v o e => ?_, fun b q l => ?_⟩⟩
  · rw [get_app] at e ⊢
    rw [h.len]
    split at e
    · rename_i z
      rw [if_pos z]
      exact h.all i o e
    · rename_i z
      rw [if_neg z]
      split at e
      · rename_i z2
        rw [if_pos z2]
        exact ⟨_, rfl⟩
      · cases e
  · unfold updL at l
    split at l
    · rename_i z
      subst z
      exact ⟨gp, _, hp⟩
    · exact h.rep.sep b q l
  · rw [rootsOf_app h.len] at e
    split at e
    · have := RepO.move (L := L) (H := H) (L' := updL L p [ρ.length]) (H' := H) (G' := G) (p := [i]) (p' := [i]) Le.refl (fun a q l => ⟨by
        have : a ≠ p := fun z => by rw [z, lp] at l; cases l
        unfold updL
        rw [if_neg this]
        exact l, fun _ x => x⟩) o v [] (by simpa using h.rep.rep i v o e)
      simpa using this
    · rename_i z
      have : i = ρ.length := by
        have e2 := (rootsOf_some.mp e).1
        have := (List.getElem?_eq_some_iff.mp e2).1
        have := h.len
        simp at *
        omega
      subst this
      simp [rootsOf] at e
      obtain ⟨e1, e2⟩ := e
      subst e1 e2
      exact ⟨p, kvs, rfl, by unfold updL; rw [if_pos rfl], hp, rfl, repOs_fz ds _ _ 0 r⟩
  · unfold updL at l
    split at l
    · cases l
      refine ⟨_, _, rfl, ?_⟩
      rw [rootsOf_app h.len, if_neg (by omega)]
      simp [rootsOf]
    · obtain ⟨i, r', e1, e2⟩ := h.rep.own b q l
      refine ⟨i, r', e1, ?_⟩
      obtain ⟨⟨v1, o⟩, e3⟩ := Option.isSome_iff_exists.mp e2
      rw [rootsOf_app h.len, if_pos (List.getElem?_eq_some_iff.mp (rootsOf_some.mp e3).2).1, e3]
      rfl
theorem SRep.newNone (h : SRep K cl σ H G L ρ) {p : Addr} (hp : H p = none) : G p = none ∧ L p = none := by
  constructor
  · cases w : G p with
    | none => rfl
    | some x =>
      have := h.le p x w
      rw [hp] at this
      cases this
  · cases w : L p with
    | none => rfl
    | some x =>
      obtain ⟨_, u, hu⟩ := h.rep.sep p x w
      rw [hp] at hu
      cases hu
/-- keys and values behind d[k] = x -/
def putKs (ks : List Key) (k : Key) : List Key := match hasK ks k with
  | true => ks
  | false => ks ++ [k]
def replD : List Key → List D → Key → D → List D
  | k :: ks, d :: ds, j, x => (if k = j then x else d) :: replD ks ds j x
  | _, _, _, _ => []
def putDs (ks : List Key) (ds : List D) (k : Key) (x : D) : List D := match hasK ks k with
  | true => replD ks ds k x
  | false => ds ++ [x]
theorem repl_ok {k : Key} {v : V} {d : D} (hv : RepV K cl G v d) : ∀ (kvs : List (Key × V)) (ds : List D), RepVs K cl G (kvs.map (·.2)) ds →
    RepVs K cl G ((kvs.map fun kv => if kv.1 = k then (kv.1, v) else kv).map (·.2)) (replD (kvs.map (·.1)) ds k d)
  | [], [], _ => rfl
  | [], d :: ds, ⟨_, _, e, _⟩ => by cases e
  | kv :: kvs, [], r => by cases r
  | (j, w) :: kvs, x :: ds, ⟨w', ws, e, r, rs⟩ => by
    simp only [List.map_cons, List.cons.injEq] at e
    obtain ⟨rfl, rfl⟩ := e
    simp only [List.map_cons, replD]
    refine ⟨_, _, rfl, ?_, repl_ok hv kvs ds rs⟩
    by_cases z : j = k
    · rw [if_pos z, if_pos z]
      exact hv
    · rw [if_neg z, if_neg z]
      exact r
theorem put_rep {k : Key} {v : V} {d : D} {kvs : List (Key × V)} {ds : List D} (hv : RepV K cl G v d) (r : RepVs K cl G (kvs.map (·.2)) ds) :
    (putK kvs k v).map (·.1) = putKs (kvs.map (·.1)) k ∧ RepVs K cl G ((putK kvs k v).map (·.2)) (putDs (kvs.map (·.1)) ds k d) := by
  have any : (kvs.any fun kv => decide (kv.1 = k)) = hasK (kvs.map (·.1)) k := by
    unfold hasK
    rw [List.any_map]
    rfl
  unfold putK putKs putDs
  rw [any]
  cases q : hasK (kvs.map (·.1)) k with
  | true =>
    rw [if_pos rfl]
    refine ⟨?_, repl_ok hv kvs ds r⟩
    rw [List.map_map]
    congr 1
    funext kv
    simp only [Function.comp]
    split <;> rfl
  | false =>
    rw [if_neg Bool.false_ne_true]
    refine ⟨by simp, ?_⟩
    rw [List.map_append]
    exact r.append ⟨v, [], rfl, hv, rfl⟩
theorem putK_len {k : Key} {v : V} (kvs : List (Key × V)) : (putK kvs k v).length ≤ kvs.length + 1 := by
  unfold putK
  split <;> simp
def dcLoop (vs : List Nat) (b : MG) (t : MB) (gk gv : MD) : List D → Rho → List Key → List D → Option (List Key × List D × Rho)
  | [], ρ, ks, xs => some (ks, xs, ρ)
  | d :: ds, ρ, ks, xs => (match b d ρ with
    | some ρ1 => (match t ρ1 with
      | some (true, ρ2) => (match gk ρ2 with
        | some (y, ρ3) => (match keyD y with
          | some k => (match gv ρ3 with
            | some (x, ρ4) => dcLoop vs b t gk gv ds (wipeR ρ4 vs) (putKs ks k) (putDs ks xs k x)
            | none => none)
          | none => none)
        | none => none)
      | some (false, ρ2) => dcLoop vs b t gk gv ds (wipeR ρ2 vs) ks xs
      | none => none)
    | none => none)
def oDc (gi : MI) (vs : List Nat) (b : MG) (t : MB) (gk gv : MD) : MO := fun ρ => match gi ρ with
  | some (ds, ρ1) => (match fzAt ρ1 vs && decide (ds.length ≤ sizeLine) with
    | true => (match dcLoop vs b t gk gv ds (wipeR ρ1 vs) [] [] with
      | some (ks, xs, ρ2) => some (.dct ks (xs.map .fz), restR ρ1 vs ρ2)
      | none => none)
    | false => none)
  | none => none
end
section
variable {X : Cx} {cl : Cl} {e a b c o tg ix : Expr} {es rest : List Expr} {pos pos' apos : Pos}
theorem so_empty : SO X cl (.Dict [] [] pos) (fun ρ => some (.dct [] [], ρ)) := PE.weak pe_dnewK fun σ H Q ⟨G, L, ρ, o, ρ', hs, hg, q⟩ => by
  cases hg
  intro p hp
  obtain ⟨gp, lp⟩ := hs.newNone hp
  have s1 := (hs.other (p := p) (o := .dK []) lp gp (fun xs e => by cases e)).adoptD (ds := []) upd_same lp gp rfl
  refine q _ _ _ _ s1 ⟨fun b x hb hl => ?_, Le.refl⟩
  have n : b ≠ p := fun z => by rw [z, hp] at hb; cases hb
  refine ⟨by rw [upd_ne n]; exact hb, ?_, id⟩
  unfold updL
  rw [if_neg n]
  exact hl
theorem dc_reads {gi : MI} {vs T : List Nat} {bd : MG} {t : MB} {gk gv : MD} (hT : ∀ i ∈ T, i ∈ vs) {σ : St} {H : Hp} {Q : VK} (h : tO X cl (oDc gi vs bd t gk gv) σ H Q) :
    tDc (tI X cl gi) (tG X cl T bd) (tB' X cl t) (tD X cl gk) (tD X cl gv) vs σ H Q := by
  obtain ⟨G, L, ρ, o, ρ', hs, hg, q⟩ := h
  unfold oDc at hg
  split at hg
  · rename_i ds ρ1 e1
    split at hg
    · rename_i z
      obtain ⟨z1, z2⟩ := Bool.and_eq_true_iff.mp z
      have z2 := of_decide_eq_true z2
      split at hg
      · rename_i ks xs ρ2 e2
        cases hg
        refine ⟨G, L, ρ, ds, ρ1, hs, e1, fun J H1 G1 L1 s1 f1 it p hp => ?_⟩
        obtain ⟨p0, _⟩ := s1.newNone hp
        obtain ⟨L2, s2, f2⟩ := s1.wipe vs
        obtain ⟨_, l2⟩ := s2.newNone hp
        refine ⟨fun i m Hc => m = ds.length - i ∧ i ≤ ds.length ∧ ∃ Gc Lc ρc kvs accD, SRep X.K cl (wipe σ vs) Hc Gc Lc ρc ∧ Hc p = some (.dK kvs) ∧ RepVs X.K cl Gc (kvs.map (·.2)) accD ∧ Lc p = none ∧ Gc p = none ∧ kvs.length ≤ i ∧
          dcLoop vs bd t gk gv (ds.drop i) ρc (kvs.map (·.1)) accD = some (ks, xs, ρ2) ∧ FrameX p H1 G1 L1 Hc Gc Lc, ⟨ds.length, by simp, Nat.zero_le _, G1, L2, _, [], [], s2.other l2 p0 (fun xs e => by cases e), upd_same, rfl, l2, p0, Nat.le_refl _, by simpa using e2, ?_⟩, ?_⟩
        · exact ⟨fun b x n hb hl => ⟨by rw [upd_ne n]; exact hb, (f2.keep b x hb hl).2.1, id⟩, Le.refl⟩
        · rintro i m Hc ⟨rfl, hi, Gc, Lc, ρc, kvs, accD, sc, hD, ra, lD, gD, ha, ec, fx⟩
          by_cases hlt : i < ds.length
          · refine .inr ?_
            have ed : ds[i]? = some ds[i] := List.getElem?_eq_getElem hlt
            have edrop : ds.drop i = ds[i] :: ds.drop (i + 1) := (List.getElem_cons_drop hlt).symm
            rw [edrop] at ec
            obtain ⟨hgo, hy⟩ := it.go i Hc Gc ds[i] fx.le sc.le sc.rep.imm ed
            refine ⟨hgo, fun Hn => i + 1 ≤ ds.length ∧ ∃ Gc Lc ρc kvs accD, SRep X.K cl (wipe σ vs) Hn Gc Lc ρc ∧ Hn p = some (.dK kvs) ∧ RepVs X.K cl Gc (kvs.map (·.2)) accD ∧ Lc p = none ∧ Gc p = none ∧ kvs.length ≤ i + 1 ∧
              dcLoop vs bd t gk gv (ds.drop (i + 1)) ρc (kvs.map (·.1)) accD = some (ks, xs, ρ2) ∧ FrameX p H1 G1 L1 Hn Gc Lc, fun Hn hn => ⟨ds.length - (i + 1), by omega, rfl, hn⟩, fun x Hy yy => ?_⟩
            obtain ⟨G3, ext, rx⟩ := hy x Hy yy
            obtain ⟨s3, f3⟩ := sc.ext ext
            have d3 := f3.keep p _ hD lD
            simp only [dcLoop] at ec
            split at ec
            · rename_i ρ3 e3
              refine ⟨G3, Lc, ρc, ds[i], ρ3, s3, rx, e3, fun σ4 H4 G4 L4 s4 f4 k4 n4 => ?_⟩
              have d4 := f4.keep p _ d3.1 d3.2.1
              have len4 : σ4.length = σ.length := by rw [n4, wipe_length]
              have we := wipe_eq hT k4 len4
              refine ⟨we, ?_⟩
              split at ec
              · rename_i ρ5 e5
                split at ec
                · rename_i y6 ρ6 e6
                  split at ec
                  · rename_i k ek
                    split at ec
                    · rename_i x7 ρ7 e7
                      refine ⟨G4, L4, ρ3, true, ρ5, s4, e5, fun H5 G5 L5 s5 f5 => iteT ⟨G5, L5, ρ5, y6, ρ6, s5, e6, fun y H6 G6 L6 s6 r6 f6 => ⟨G6, L6, ρ6, x7, ρ7, s6, e7, fun v H7 G7 L7 s7 r7 f7 => ?_⟩⟩⟩
                      have d5 := f5.keep p _ d4.1 d4.2.1
                      have d6 := f6.keep p _ d5.1 d5.2.1
                      have d7 := f7.keep p _ d6.1 d6.2.1
                      have g7 : G7 p = none := d7.2.2 (d6.2.2 (d5.2.2 (d4.2.2 (d3.2.2 gD))))
                      obtain ⟨L8, s8, f8⟩ := s7.wipe vs
                      have d8 := f8.keep p _ d7.1 d7.2.1
                      rw [we] at s8
                      have rA : RepVs X.K cl G7 (kvs.map (·.2)) accD := ((((ra.mono f3.le).mono f4.le).mono f5.le).mono f6.le).mono f7.le
                      obtain ⟨pk, pv⟩ := put_rep (k := k) r7 rA
                      have ey := keyD_ok ek r6
                      refine ⟨kvs, k, ey, d7.1, by omega, hlt, G7, L8, _, putK kvs k v, _, s8.other d8.2.1 g7 (fun xs e => by cases e), upd_same, pv, d8.2.1, g7, Nat.le_trans (putK_len kvs) (by omega), by rw [pk]; exact ec, ?_⟩
                      refine fx.trans ((((((f3.trans f4).trans f5).trans f6).trans f7).trans f8).x p |>.trans ⟨fun b x n hb hl => ⟨by rw [upd_ne n]; exact hb, hl, id⟩, Le.refl⟩)
                    · cases ec
                  · cases ec
                · cases ec
              · rename_i ρ5 e5
                refine ⟨G4, L4, ρ3, false, ρ5, s4, e5, fun H5 G5 L5 s5 f5 => iteF ?_⟩
                have d5 := f5.keep p _ d4.1 d4.2.1
                obtain ⟨L7, s7, f7⟩ := s5.wipe vs
                have d7 := f7.keep p _ d5.1 d5.2.1
                rw [we] at s7
                exact ⟨hlt, G5, L7, _, kvs, accD, s7, d5.1, ((ra.mono f3.le).mono f4.le).mono f5.le, d7.2.1, d5.2.2 (d4.2.2 (d3.2.2 gD)), by omega, ec, fx.trans ((((f3.trans f4).trans f5).trans f7).x p)⟩
              · cases ec
            · cases ec
          · have hi2 : i = ds.length := by omega
            subst hi2
            refine .inl ⟨it.stop _ Hc (fx.le.trans sc.le) (Nat.le_refl _), ?_⟩
            simp only [List.drop_length, dcLoop] at ec
            cases ec
            have hfz : ∀ i ∈ vs, ∀ o, ρ1[i]? = some (some o) → ∃ d, o = .fz d := fun i hi o e => by
              have := List.all_eq_true.mp z1 i hi
              rw [e] at this
              cases o <;> first | exact ⟨_, rfl⟩ | cases this
            have su := s1.unwipe hfz sc fx.le
            have sa := su.adoptD hD lD gD ra
            refine q _ Hc Gc _ sa (f1.trans ⟨fun b x hb hl => ?_, fx.le⟩)
            have n : b ≠ p := fun z => by rw [z, hp] at hb; cases hb
            obtain ⟨a1, a2, a3⟩ := fx.keep b x n hb hl
            refine ⟨a1, ?_, a3⟩
            unfold updL
            rw [if_neg n]
            exact a2
      · cases hg
    · cases hg
  · cases hg
theorem so_dc {kx vx iter : Expr} {ifs : List Expr} {scope : Scope} {own : List (Str × Nat)} {gi : MI} {T : List Nat} {bd : MG} {t : MB} {gk gv : MD} (hi : SI X cl tg iter gi) (ok : BlkOk X.N X.env.scope scope own)
    (hb : ∀ (s : Shared) (H : Hp) (C : Addr) (cs : List (Str × Addr)) (fp : List Addr), SG (X.blk s H scope (compEnvC scope cs C X.env) fp) cl tg T bd)
    (ht : ∀ (s : Shared) (H : Hp) (C : Addr) (cs : List (Str × Addr)) (fp : List Addr), STs (X.blk s H scope (compEnvC scope cs C X.env) fp) cl ifs t)
    (hk : ∀ (s : Shared) (H : Hp) (C : Addr) (cs : List (Str × Addr)) (fp : List Addr), SD (X.blk s H scope (compEnvC scope cs C X.env) fp) cl kx gk)
    (he : ∀ (s : Shared) (H : Hp) (C : Addr) (cs : List (Str × Addr)) (fp : List Addr), SD (X.blk s H scope (compEnvC scope cs C X.env) fp) cl vx gv)
    (hN : X.N.Nodup) (hT : ∀ i ∈ T, i ∈ own.map (·.2) := by decide) (hc : X.calm = true := by rfl) (hs : ∀ x, foldedSetIterable iter X.env x = pure x := by intro _; rfl) :
    SO X cl (.DictComp kx vx [⟨tg, iter, ifs, 0⟩] scope pos) (oDc gi (own.map (·.2)) bd t gk gv) :=
  PE.weak (pe_dc (wi := tI X cl gi) (g := tG X cl T bd) (tt := tB' X cl t) (tk := tD X cl gk) (tv := tD X cl gv) hc hN hi ok hb ht hk he hs) fun σ H Q h => dc_reads hT h
/-! ### o.get(e, f) -/
def mGet (g gk gf : MD) : MD := fun ρ => match g ρ with
  | some (.dct ks ds, ρ1) => (match gk ρ1 with
    | some (y, ρ2) => (match gf ρ2, keyD y with
      | some (z, ρ3), some k => (match lookD ks ds k with
        | some d => some (d, ρ3)
        | none => some (z, ρ3))
      | _, _ => none)
    | none => none)
  | _ => none
theorem sd_get {f : Expr} {g gk gf : MD} (hu : X.A.units + 1 < cLine) (ho : SD X cl o g) (he : SD X cl e gk) (hf : SD X cl f gf)
    (hb : attributeBase o "get" X.env (eval o X.env) = eval o X.env := by rfl)
    (hfew : ((backTo pos (starEach [e, f] X.env)).all (fun x => !x.1) && (backToKw pos (keywordEach [] X.env)).all (fun x => x.1.isSome) && decide (([e, f] : List Expr).length + ([] : List Keyword).length + (if ([] : List Keyword).isEmpty then 0 else 1) < 30)) = true := by rfl)
    (hline : (apos.endLine == pos.line) = true := by rfl) (htr : backTo pos (starEach [e, f] X.env) = [(false, eval e X.env), (false, eval f X.env)] := by rfl) : SD X cl (.Call (.Attribute o "get" apos) [e, f] [] pos) (mGet g gk gf) :=
  PE.weak (pe_dget2 hu ho he hf ⟨hb, hfew, hline, htr⟩) fun σ H Q ⟨G, L, ρ, d, ρ', hs, hg, q⟩ => by
    unfold mGet at hg
    split at hg
    · rename_i ks ds ρ1 e1
      split at hg
      · rename_i y ρ2 e2
        split at hg
        · rename_i z ρ3 k e3 ek
          refine ⟨G, L, ρ, .dct ks ds, ρ1, hs, e1, fun v H1 G1 L1 s1 r1 f1 => ?_⟩
          obtain ⟨p, kvs, rfl, hp, rfl, rs⟩ := r1
          refine ⟨p, rfl, .inl ⟨kvs, s1.le.rd hp⟩, G1, L1, ρ1, y, ρ2, s1, e2, fun yv H2 G2 L2 s2 r2 f2 => ⟨G2, L2, ρ2, z, ρ3, s2, e3, fun zv H3 G3 L3 s3 r3 f3 => ?_⟩⟩
          have hp3 : Rd G3 p (.dK kvs) := (f2.trans f3).le.rd hp
          have rs3 := (rs.mono f2.le).mono f3.le
          have ey := keyD_ok ek r2
          refine ⟨valV kvs k, .inl ⟨kvs, k, s3.le.rd hp3, ey, rfl⟩, ?_⟩
          split at hg
          · rename_i d' e4
            cases hg
            obtain ⟨w, h1, h2⟩ := lookD_ok rs3 e4
            rw [h1]
            exact q w H3 G3 L3 s3 h2 ((f1.trans f2).trans f3)
          · rename_i e4
            cases hg
            rw [lookD_none rs3 e4]
            exact q zv H3 G3 L3 s3 r3 ((f1.trans f2).trans f3)
        · cases hg
      · cases hg
    · cases hg
end
end PI
set_option Elab.async false
set_option linter.all false
set_option maxRecDepth 100000
set_option maxHeartbeats 1000000
set_option autoImplicit false
/-! PI17: extend; x += e; texts of the top. -/
namespace PI
open PySem PySem.Spec PyProof.Rows L2
set_option maxRecDepth 8000 in
theorem extend_tup (l : Addr) (xs : Array Value) (n : Nat) (b : Addr) (ob : Obj) (ys : Array Value) (m : Nat) (hc : ob.cls = .type "tuple") (hd : ob.data = .seq ys m) (z0 : ¬(!xs.isEmpty && Builtin.List.listTooLong (xs.size + ys.size)) = true) (z1 : xs.size ≤ sizeLine) (z2 : xs.size + ys.size ≤ sizeLine + 1) :
    Meets (Builtin.«list.extend» ⟨[.ref l, .ref b], []⟩) (fun _ R s => s.heap.get? l = some { cls := .type "list", dict := none, data := .seq xs n, slots := #[] } ∧ s.heap.get? b = some ob ∧ R (.ok (.ret Value.none)) { s with heap := s.heap.update l (Obj.mapSeq fun x => x ++ ys), toks := s.toks }) :=
  .of_wp fun pg wo A R st hh => by
    obtain ⟨hp, g, d, tk, os⟩ := st
    obtain ⟨hl, hb, h⟩ := hh
    obtain ⟨oc, od, oda, osl⟩ := ob
    dsimp only at hc hd
    subst hc hd
    have f1 := AutoSeq1.idx_int
    have f2 := AutoSeq1.sub_tuple_tuple
    have f3 := AutoSeq1.sub_list_list
    have f4 := AutoSeq1.sub_tuple_list
    have f5 := AutoSeq1.sub_list_tuple
    have zz : (xs ++ ys).size ≤ sizeLine + 1 := by
      rw [Array.size_append]
      exact z2
    wp_walk using (wpAny_updateSeq hl rfl (hz := z1) (_hz' := zz)), AutoSeq1.wpAny_loadPart' hl, AutoSeq1.wpAny_loadPart' hb
    exact ⟨_, rfl, h⟩
/-- l.extend(b), b a list or a tuple -/
def rExt (K : PySem.W.Frag) : V → List V → Hp → VK → Prop := fun x vs H Q => ∃ l b xs zs, x = .ref l ∧ vs = [.ref b] ∧ H l = some (.lst xs) ∧ (H b = some (.lst zs) ∨ SqT K H b zs) ∧ xs.length + zs.length ≤ sizeLine ∧ Q .non (upd H l (.lst (xs ++ zs)))
theorem mt_ext {X : Cx} : MtM X "list.extend" (rExt X.K) := by
  intro pins s σ H x vs v us Q I rx rv h
  obtain ⟨l, b, xs, zs, ex, ev, hH, hB, hz, q⟩ := h
  subst ex ev
  rcases hB with hB | hB
  · exact mt_extend pins s σ H _ _ v us Q I rx rv ⟨l, b, xs, zs, rfl, rfl, hH, hB, hz, q⟩
  · cases rx
    obtain ⟨u, rfl, ru⟩ := rv.one
    cases ru
    obtain ⟨z, its, n, r, hl, e⟩ := I.lstM hH
    obtain ⟨its2, r2, ⟨o, e2, hc, n2, hd⟩, hl2⟩ := I.tuple hB
    have len1 := r.length
    have len2 := r2.length
    have hsz : its.toArray.size + its2.toArray.size ≤ sizeLine := by rw [List.size_toArray, List.size_toArray]; omega
    have hlong : ¬ (!its.toArray.isEmpty && Builtin.List.listTooLong (its.toArray.size + its2.toArray.size)) = true := by
      rw [notLongL hsz, Bool.and_false]
      decide
    refine call_meets F.slot_list_extend ⟨_, e, rfl⟩ F.entry_list_extend (F.args_list_extend_2 _ _) (extend_tup l its.toArray n b o its2.toArray n2 hc hd hlong (by rw [List.size_toArray]; omega) (by omega)) ⟨e, e2, ?_⟩
    refine ⟨.non, _, I.lset (its' := its ++ its2) hH e (by simp) (r.append r2) ?_, rfl, q⟩
    rw [List.length_append]
    omega
section
variable {K : PySem.W.Frag} {cl : Cl} {G H : Hp} {L : Lab} {σ : L2.St} {ρ : Rho}
theorem RepOs.snocs (G H : Hp) (L : Lab) : ∀ (os : List O) (vs : List V) (p : Path) (i : Nat) (ds : List D) (ws : List V), RepOs K cl G H L p i vs os → RepVs K cl G ws ds → RepOs K cl G H L p i (vs ++ ws) (os ++ ds.map .fz)
  | [], vs, p, i, ds, ws, r, rs => by
    cases r
    exact repOs_fz ds ws p i rs
  | o :: os, _, p, i, ds, ws, ⟨v, us, e, r, rr⟩, rs => by
    subst e
    exact ⟨v, _, rfl, r, RepOs.snocs G H L os us p (i + 1) ds ws rr rs⟩
theorem SRep.extend (h : SRep K cl σ H G L ρ) {i : Nat} {os : List O} {ds : List D} {ws : List V} (e : ρ[i]? = some (some (.lst os))) (rs : RepVs K cl G ws ds) :
    ∃ a vs, σ[i]? = some (some (.ref a)) ∧ H a = some (.lst vs) ∧ vs.length = os.length ∧ SRep K cl σ (upd H a (.lst (vs ++ ws))) G L (ρ.set i (some (.lst (os ++ ds.map .fz)))) ∧ Frame H G L (upd H a (.lst (vs ++ ws))) G L := by
  obtain ⟨a, vs, ew, la, ha, r⟩ := h.lst_at e
  have hi := (List.getElem?_eq_some_iff.mp e).1
  have hne : ∀ b q, L b = some (i :: q) → q ≠ [] → b ≠ a := fun b q l n z => by rw [z, la] at l; cases l; exact n rfl
  have ga : G a = none := (h.rep.sep a _ la).1
  have rt : RepO K cl G (upd H a (.lst (vs ++ ws))) L [i] (.ref a) (.lst (os ++ ds.map .fz)) := by
    refine ⟨a, _, rfl, la, upd_same, ?_⟩
    exact RepOs.snocs _ _ _ os vs _ 0 ds ws (RepOs.kids Le.refl (fun b j q l => ⟨l, fun x hx => by rw [upd_ne (hne b _ l (by simp))]; exact hx⟩) os _ 0 r) rs
  refine ⟨a, vs, ew, ha, r.length, ⟨by simp [h.len], fun m o' e' => ?_, ⟨fun b x hb => ?_, fun b p' l => ?_, fun b xs e' => ?_, fun m v' o' e' => ?_, fun b p' l => ?_⟩⟩, ⟨fun b x e' l => ?_, Le.refl⟩⟩
  · by_cases y : m = i
    · subst y; exact ⟨_, ew⟩
    · rw [List.getElem?_set_ne (Ne.symm y)] at e'
      exact h.all m o' e'
  · rw [upd_ne (fun z => by rw [z, ga] at hb; cases hb)]
    exact h.le b x hb
  · obtain ⟨g, x, hx⟩ := h.rep.sep b p' l
    refine ⟨g, ?_⟩
    by_cases y : b = a
    · subst y; exact ⟨_, upd_same⟩
    · exact ⟨x, by rw [upd_ne y]; exact hx⟩
  · by_cases y : b = a
    · subst y; rw [upd_same] at e'; cases e'
    · rw [upd_ne y] at e'; exact h.rep.imm b xs e'
  · obtain ⟨d1, d2⟩ := rootsOf_some.mp e'
    by_cases y : m = i
    · subst y
      rw [List.getElem?_set_self hi] at d2
      rw [ew] at d1
      cases d1
      cases d2
      exact rt
    · rw [List.getElem?_set_ne (Ne.symm y)] at d2
      have := RepO.move (L := L) (H := H) (L' := L) (H' := upd H a (.lst (vs ++ ws))) (G' := G) (p := [m]) (p' := [m]) Le.refl (fun b q l => ⟨l, fun x hx => by
        rw [upd_ne (fun z => by rw [z, la] at l; cases l; exact y rfl)]; exact hx⟩) o' v' [] (by simpa using h.rep.rep m v' o' (rootsOf_some.mpr ⟨d1, d2⟩))
      simpa using this
  · obtain ⟨m, r', d1, d2⟩ := h.rep.own b p' l
    refine ⟨m, r', d1, ?_⟩
    by_cases y : m = i
    · subst y; rw [rootsOf_some.mpr ⟨ew, List.getElem?_set_self hi⟩]; rfl
    · obtain ⟨⟨w, o2⟩, d5⟩ := Option.isSome_iff_exists.mp d2
      obtain ⟨d6, d7⟩ := rootsOf_some.mp d5
      rw [rootsOf_some.mpr ⟨d6, by rw [List.getElem?_set_ne (Ne.symm y)]; exact d7⟩]
      rfl
  · rw [upd_ne (fun z => by rw [z, la] at l; cases l)]
    exact ⟨e', l, id⟩
end
section
variable {X : Cx} {cl : Cl} {e a b c o tg ix : Expr} {es rest : List Expr} {pos pos' apos : Pos} {pr : List Nat}
def itemsD : D → Option (List D)
  | .tup ds => some ds
  | .lst ds => some ds
  | _ => none
def sExtend (i : Nat) (g : MD) : MS := fun ρ => match ρ[i]? with
  | some (some (.lst _)) => (match g ρ with
    | some (d, ρ1) => (match itemsD d, ρ1[i]? with
      | some ds, some (some (.lst os)) => (match decide (os.length + ds.length ≤ sizeLine) with
        | true => some (.nx, ρ1.set i (some (.lst (os ++ ds.map .fz))))
        | false => none)
      | _, _ => none)
    | none => none)
  | _ => none
theorem ss_extend (i : Nat) {x : Str} {xp apos cpos : Pos} {g : MD} (he : SD X cl e g) (hx : PE X (.Name x xp) (tVar i)) (hsw : swapsWith (.Call (.Attribute (.Name x xp) "extend" apos) [e] [] cpos) none pos.line X.env = pure false := by rfl)
    (hb : attributeBase (.Name x xp) "extend" X.env (eval (.Name x xp) X.env) = eval (.Name x xp) X.env := by rfl)
    (hfew : ((backTo cpos (starEach [e] X.env)).all (fun x => !x.1) && (backToKw cpos (keywordEach [] X.env)).all (fun x => x.1.isSome) && decide ([e].length + ([] : List Keyword).length + (if ([] : List Keyword).isEmpty then 0 else 1) < 30)) = true := by rfl)
    (hline : (apos.endLine == cpos.line) = true := by rfl) (hs : starEach [e] X.env = (false, eval e X.env) :: starEach [] X.env := by rfl) : SS X cl pr (.Expr (.Call (.Attribute (.Name x xp) "extend" apos) [e] [] cpos) pos) (sExtend i g) := by
  have hA : SDs X cl [e] (dsCons g dsNil) := sds_cons he sds_nil hs
  refine PS.weak (ps_expr (pe_bm PySem.F.plainAttrs_list PySem.F.slot_list_extend PySem.F.type_list_extend mt_ext hx hA hb hfew hline hs (by rfl)) hsw) fun D σ H ⟨G, L, ρ, fl, ρ', hs, hg, q⟩ => ?_
  unfold sExtend at hg
  split at hg
  · rename_i os0 e0
    split at hg
    · rename_i d ρ1 e1
      split at hg
      · rename_i ds os e2 e3
        split at hg
        · rename_i z
          cases hg
          have z := of_decide_eq_true z
          obtain ⟨p, vs0, c1, _, c2, _⟩ := hs.lst_at e0
          refine ⟨_, c1, .inl ⟨rfl, vs0, SqL.of c2⟩, G, L, ρ, [d], ρ1, hs, by simp [dsCons, dsNil, e1], fun vs H1 G1 L1 s1 r1 f1 => ?_⟩
          obtain ⟨v, ws, rfl, r2, r3⟩ := r1
          cases r3
          have key : ∃ b zs, v = .ref b ∧ (H1 b = some (.lst zs) ∨ SqT X.K H1 b zs) ∧ RepVs X.K cl G1 zs ds := by
            unfold itemsD at e2
            split at e2
            · cases e2
              obtain ⟨b, zs, rfl, hb, rr⟩ := r2
              exact ⟨b, zs, rfl, .inr (s1.le.tup hb).seq, rr⟩
            · cases e2
              obtain ⟨b, zs, rfl, hb, rr⟩ := r2
              exact ⟨b, zs, rfl, .inl (s1.le _ _ hb), rr⟩
            · cases e2
          obtain ⟨b, zs, rfl, hb, rr⟩ := key
          obtain ⟨p', vs', d1, d2, d3, s4, f4⟩ := s1.extend e3 rr
          rw [c1] at d1
          cases d1
          exact ⟨p, b, vs', zs, rfl, rfl, d2, hb, by rw [d3, rr.length]; exact z, q σ _ G1 L1 s4 (f1.trans f4) Kp.refl⟩
        · cases hg
      · cases hg
    · cases hg
  · cases hg
/-- x += e of integers -/
def sAugAdd (i : Nat) (g : MD) : MS := fun ρ => match ρ[i]? with
  | some (some (.fz (.int a))) => (match g ρ with
    | some (.int b, ρ1) => (match decide (i < ρ1.length) with
      | true => some (.nx, ρ1.set i (some (.fz (.int (a + b)))))
      | false => none)
    | _ => none)
  | _ => none
/-- a text of the top -/
theorem sd_gtxt {x z : Str} (h : ∃ t, X.mg x = some (.str z t)) (hg : Gl X x := by rfl) (hd : (x == ("__debug__" : Str)) = false := by decide) : SD X cl (.Name x pos) (mC (.str z)) := by
  obtain ⟨t, e⟩ := h
  exact sd_glob (v := .str z) hg e ⟨t, rfl⟩ (fun _ => rfl) hd
theorem sd_gint {x : Str} {i : Int} (h : ∃ t, X.mg x = some (.int i t)) (hg : Gl X x := by rfl) (hd : (x == ("__debug__" : Str)) = false := by decide) : SD X cl (.Name x pos) (mC (.int i)) := by
  obtain ⟨t, e⟩ := h
  exact sd_glob (v := .int i) hg e ⟨t, rfl⟩ (fun _ => rfl) hd
end
end PI
set_option Elab.async false
set_option linter.all false
set_option maxRecDepth 100000
set_option maxHeartbeats 1000000
set_option autoImplicit false
/-! PI18: x += e; sorted of a dict's text keys; list * int; texts compared. -/
namespace PI
open PySem PySem.Spec L2
/-! ### the order of texts -/
def leS (x y : Str) : Prop := ¬ y.cps.toList < x.cps.toList
instance (x y : Str) : Decidable (leS x y) := inferInstanceAs (Decidable (¬ _))
theorem str_ext {x y : Str} (h : x.cps.toList = y.cps.toList) : x = y := by
  obtain ⟨⟨a⟩⟩ := x
  obtain ⟨⟨b⟩⟩ := y
  simp at h
  rw [h]
theorem leS_trans {x y z : Str} (h1 : leS x y) (h2 : leS y z) : leS x z := by
  have a : x.cps.toList ≤ y.cps.toList := List.not_lt.mp h1
  have b : y.cps.toList ≤ z.cps.toList := List.not_lt.mp h2
  exact List.not_lt.mpr (List.le_trans a b)
theorem leS_anti {x y : Str} (h1 : leS x y) (h2 : leS y x) : x = y := str_ext (List.le_antisymm (List.not_lt.mp h1) (List.not_lt.mp h2))
theorem leS_total (x y : Str) : leS x y ∨ leS y x := by
  rcases List.le_total x.cps.toList y.cps.toList with h | h
  · exact .inl (List.not_lt.mpr h)
  · exact .inr (List.not_lt.mpr h)
def insS (x : Str) : List Str → List Str
  | [] => [x]
  | y :: l => if leS x y then x :: y :: l else y :: insS x l
def srtS : List Str → List Str
  | [] => []
  | x :: l => insS x (srtS l)
theorem insS_perm (x : Str) : ∀ l : List Str, (insS x l).Perm (x :: l)
  | [] => List.Perm.refl _
  | y :: l => by
    unfold insS
    split
    · exact List.Perm.refl _
    · exact ((insS_perm x l).cons y).trans (List.Perm.swap x y l)
theorem srtS_perm : ∀ l : List Str, (srtS l).Perm l
  | [] => List.Perm.refl _
  | x :: l => (insS_perm x (srtS l)).trans ((srtS_perm l).cons x)
theorem insS_pair (x : Str) : ∀ l : List Str, l.Pairwise leS → (insS x l).Pairwise leS
  | [], _ => by simp [insS]
  | y :: l, h => by
    rw [List.pairwise_cons] at h
    unfold insS
    split
    · rename_i z
      rw [List.pairwise_cons]
      refine ⟨fun w hw => ?_, List.pairwise_cons.mpr h⟩
      rcases List.mem_cons.mp hw with rfl | hw
      · exact z
      · exact leS_trans z (h.1 w hw)
    · rename_i z
      rw [List.pairwise_cons]
      refine ⟨fun w hw => ?_, insS_pair x l h.2⟩
      rcases List.mem_cons.mp ((insS_perm x l).mem_iff.mp hw) with rfl | hw
      · exact (leS_total w y).resolve_left z
      · exact h.1 w hw
theorem srtS_pair : ∀ l : List Str, (srtS l).Pairwise leS
  | [] => List.Pairwise.nil
  | x :: l => insS_pair x _ (srtS_pair l)
theorem rising_pair : ∀ (l : List Str) (x : Str), PyProof.Rows.risingS x l = true → (x :: l).Pairwise leS
  | [], x, _ => by simp
  | y :: l, x, h => by
    simp only [PyProof.Rows.risingS, Bool.and_eq_true, Bool.not_eq_true'] at h
    have h1 : leS x y := by
      unfold leS
      have := h.1
      rw [PyProof.Rows.ltCps_eq] at this
      exact of_decide_eq_false this
    have h2 := rising_pair l y h.2
    rw [List.pairwise_cons]
    refine ⟨fun w hw => ?_, h2⟩
    rcases List.mem_cons.mp hw with rfl | hw
    · exact h1
    · exact leS_trans h1 ((List.pairwise_cons.mp h2).1 w hw)
theorem sorted_unique {ys ks : List Str} (p : ys.Perm ks) (h : PyProof.Rows.sortedS ys = true) : ys = srtS ks := by
  have hy : ys.Pairwise leS := by
    cases ys with
    | nil => exact List.Pairwise.nil
    | cons y l => exact rising_pair l y h
  exact List.Perm.eq_of_pairwise (fun a b _ _ => leS_anti) hy (srtS_pair ks) (p.trans (srtS_perm ks).symm)
section
variable {X : Cx} {cl : Cl} {e a b c o tg ix : Expr} {es rest : List Expr} {pos pos' apos : Pos} {pr : List Nat}
def txts : List Key → Option (List Str)
  | [] => some []
  | .inr s :: ks => (match txts ks with
    | some ss => some (s :: ss)
    | none => none)
  | .inl _ :: _ => none
theorem txts_ok : ∀ {ks : List Key} {ss : List Str}, txts ks = some ss → ks = ss.map Sum.inr
  | [], ss, e => by
    cases e
    rfl
  | .inr s :: ks, ss, e => by
    simp only [txts] at e
    split at e
    · rename_i ss' e1
      cases e
      rw [txts_ok e1]
      rfl
    · cases e
  | .inl _ :: _, _, e => by cases e
def fSorted : List D → Option D
  | [.dct ks _] => (match txts ks with
    | some ss => (match decide (ss.length < 64) with
      | true => some (.lst ((srtS ss).map .str))
      | false => none)
    | none => none)
  | _ => none
theorem reps_strs {K : PySem.W.Frag} {cl : Cl} {G : Hp} : ∀ ss : List Str, RepVs K cl G (ss.map V.str) (ss.map D.str)
  | [] => rfl
  | s :: ss => ⟨.str s, ss.map V.str, rfl, rfl, reps_strs ss⟩
theorem ok_sorted {K : PySem.W.Frag} : RnOk K cl (fun xs H Q => ∃ (a : Addr) (kvs : List (Key × V)) (ks : List Str), xs = [.ref a] ∧ Rd H a (.dK kvs) ∧ kvs.map (·.1) = ks.map Sum.inr ∧ ks.length < 64 ∧
    ∀ ys p, ys.Perm ks → PyProof.Rows.sortedS ys = true → H p = none → Q (.ref p) (upd H p (.lst (ys.map V.str)))) fSorted := fun G H xs ds d Q hle him r e q => by
  unfold fSorted at e
  split at e
  · rename_i ks ds'
    split at e
    · rename_i ss e1
      split at e
      · rename_i z
        cases e
        obtain ⟨v, rfl, p, kvs, rfl, hp, rfl, rv⟩ := one_val r
        refine ⟨p, kvs, ss, rfl, hle.rd hp, txts_ok e1, of_decide_eq_true z, fun ys w hperm hs hw => ?_⟩
        rw [sorted_unique hperm hs]
        have ex := Ext.new hle hw (.lst ((srtS ss).map V.str))
        exact q _ _ _ ex ⟨w, _, rfl, upd_same, reps_strs _⟩
      · cases e
    · cases e
  · cases e
theorem sd_sorted {p : Pos} {g : MD} (hm : X.mg "sorted" = none) (ha : SD X cl e g) (hc : X.calm = true := by rfl) (hg : Gl X "sorted" := by rfl) (he : starEach [e] X.env = [(false, eval e X.env)] := by rfl) : SD X cl (.Call (.Name "sorted" p) [e] [] pos) (mFn fSorted (dsCons g dsNil)) :=
  sd_callB (call_sortedD hc) ok_sorted hm (by decide +kernel) (sds_cons ha sds_nil he) hg (by decide) (by decide) he (by rfl)
/-! ### x += e -/
theorem ss_aug (i : Nat) {x : Str} {g : MD} (he : SD X cl e g) (hN : X.N.Nodup) (hi : X.N[i]? = some x := by rfl) (hx : Loc X.env.scope x := by first | exact Or.inl rfl | exact Or.inr rfl) (hp : i ∉ pr := by decide) (hf : X.fn x = true ∨ X.env.scope.names.lookup x = some .local := by first | exact .inl rfl | exact .inr rfl | assumption) :
    SS X cl pr (.AugAssign (.Name x pos') .Add e pos) (sAugAdd i g) := PS.weak (ps_aug hN hi hx he ip_add hf) fun D σ H ⟨G, L, ρ, fl, ρ', hs, hg, q⟩ => by
  unfold sAugAdd at hg
  split at hg
  · rename_i n e0
    split at hg
    · rename_i m ρ1 e1
      split at hg
      · rename_i z
        cases hg
        obtain ⟨v, ev, r⟩ := hs.fz e0
        cases r
        refine ⟨_, ev, G, L, ρ, _, _, hs, e1, fun w H1 G1 L1 s1 r1 f1 => ?_⟩
        cases r1
        refine ⟨n, m, rfl, rfl, ?_⟩
        obtain ⟨L2, s2, f2⟩ := s1.storeFz (v := .int (n + m)) (d := .int (n + m)) rfl (of_decide_eq_true z)
        exact q _ H1 G1 L2 s2 (f1.trans f2) (fun j hj => by rw [List.getElem?_set_ne]; intro y; subst y; exact hp hj)
      · cases hg
    · cases hg
  · cases hg
/-! ### list * int -/
def dRepL : D → D → Option D
  | .lst xs, .int k => (match decide (-(2 ^ 63) ≤ k ∧ k < 2 ^ 63 ∧ xs.length * k.toNat ≤ sizeLine) with
    | true => some (.lst (List.replicate k.toNat xs).flatten)
    | false => none)
  | _, _ => none
theorem reps_rep {K : PySem.W.Frag} {cl : Cl} {G : Hp} {vs : List V} {ds : List D} (r : RepVs K cl G vs ds) : ∀ n : Nat, RepVs K cl G (List.replicate n vs).flatten (List.replicate n ds).flatten
  | 0 => rfl
  | n + 1 => by
    rw [List.replicate_succ, List.replicate_succ, List.flatten_cons, List.flatten_cons]
    exact r.append (reps_rep r n)
theorem ok_repL {K : PySem.W.Frag} : R2Ok K cl rRep dRepL := fun G H x y dx dy d Q hle him rx ry e q => by
  unfold dRepL at e
  split at e
  · rename_i xs k
    split at e
    · rename_i z
      cases e
      obtain ⟨z1, z2, z3⟩ := of_decide_eq_true z
      obtain ⟨p, vs, rfl, hp, rv⟩ := rx
      cases ry
      refine ⟨p, k, vs, rfl, rfl, hle _ _ hp, z1, z2, by rw [rv.length]; exact z3, fun w hw => ?_⟩
      have ex := Ext.new hle hw (.lst (List.replicate k.toNat vs).flatten)
      exact q _ _ _ ex ⟨w, _, rfl, upd_same, reps_rep (rv.mono ex.le) _⟩
    · cases e
  · cases e
theorem sd_repL {ga gb : MD} (ha : SD X cl a ga) (hb : SD X cl b gb) : SD X cl (.BinOp a .Mult b pos) (mOp2 dRepL ga gb) := sd_bin op_rep ok_repL ha hb
end
end PI
set_option Elab.async false
set_option linter.all false
set_option maxRecDepth 100000
set_option maxHeartbeats 1000000
set_option autoImplicit false
/-! PI19: dead suites; texts and integers compared; list * int joined. -/
namespace PI
open PySem PySem.Spec L2
section
variable {X : Cx} {cl : Cl} {e a b c o tg ix : Expr} {es rest : List Expr} {pos pos' apos : Pos} {pr : List Nat}
theorem sss_dead {sts : List Stmt} : SSs X cl pr sts (fun _ => none) := ⟨fun pins s σ H D I ⟨G, L, ρ, fl, ρ', hs, hg, q⟩ => by cases hg⟩
theorem si_dead {e : Expr} : SI X cl tg e (fun _ => none) := ⟨fun pins s σ H R I ⟨G, L, ρ, ds, ρ', hs, hg, q⟩ => by cases hg⟩
/-! ### order of integers or texts -/
def dOrd (f : Int → Int → Bool) (g : List Nat → List Nat → Bool) : D → D → Option D
  | .int i, .int j => some (.bl (f i j))
  | .str x, .str y => some (.bl (g x.cps.toList y.cps.toList))
  | _, _ => none
abbrev rOrd (f : Int → Int → Bool) (g : List Nat → List Nat → Bool) : R2 := fun x y H Q => (∃ i j, x = .int i ∧ y = .int j ∧ Q (.bl (f i j)) H) ∨ ∃ i j, x = .str i ∧ y = .str j ∧ Q (.bl (g i.cps.toList j.cps.toList)) H
theorem ok_ord {K : PySem.W.Frag} {f : Int → Int → Bool} {g : List Nat → List Nat → Bool} : R2Ok K cl (rOrd f g) (dOrd f g) := fun G H x y dx dy d Q hle him rx ry e q => by
  unfold dOrd at e
  split at e
  · cases e
    cases rx
    cases ry
    exact .inl ⟨_, _, rfl, rfl, q _ _ _ (Ext.refl hle) rfl⟩
  · cases e
    cases rx
    cases ry
    exact .inr ⟨_, _, rfl, rfl, q _ _ _ (Ext.refl hle) rfl⟩
  · cases e
theorem st_leG {ga gb : MD} (ha : SD X cl a ga) (hb : SD X cl b gb) : ST X cl (.Compare a [.LtE] [b] pos) (bOf (mOp2 (dOrd (fun i j => decide (i ≤ j)) fun x y => !decide (y < x)) ga gb)) := st_cmp (op_le.or op_le_str) ok_ord ha hb (nomark _)
theorem st_ltG {ga gb : MD} (ha : SD X cl a ga) (hb : SD X cl b gb) : ST X cl (.Compare a [.Lt] [b] pos) (bOf (mOp2 (dOrd (fun i j => decide (i < j)) fun x y => decide (x < y)) ga gb)) := st_cmp (op_lt.or op_lt_str) ok_ord ha hb (nomark _)
/-! ### * of integers, tuple or list by an integer -/
def dMulL (x y : D) : Option D := match x with
  | .lst _ => dRepL x y
  | _ => dMulG x y
end
end PI
set_option Elab.async false
set_option linter.all false
set_option maxRecDepth 100000
set_option maxHeartbeats 1000000
set_option autoImplicit false
/-! PI20: x = {.. for ..}; comprehensions that a name holds frozen. -/
namespace PI
open PySem PySem.Spec L2
section
variable {X : Cx} {cl : Cl} {e a b c o tg ix : Expr} {es rest : List Expr} {pos pos' apos : Pos} {pr : List Nat}
theorem sw_dc {kx vx : Expr} {gs : List Comprehension} {scope : Scope} {pos py : Pos} {y : Str} {l : Nat} {env : PySem.Env} (hk : env.scope.kind = .function) (hy : env.scope.names.lookup y = some .local) (hl : (py.line == pos.line) = true)
    (ha : (scope.names.any fun (n, k) => n == y && (k == .local || k == .cell)) = false) : swapsWith (.DictComp kx vx gs scope pos) (some (.Name y py)) l env = pure true := by
  have ky : env.kindOf y = some .local := hy
  have hb : env.blockKind = .function := by
    unfold Env.blockKind
    rw [hk]
    rfl
  unfold swapsWith
  simp only [hb, ky, ha, Expr.pos, hl]
  rfl
theorem ps_setDc {i : Nat} {y : Str} {py : Pos} {kx vx tg iter : Expr} {ifs : List Expr} {scope : Scope} {own : List (Str × Nat)} {pos spos : Pos} {wi : TI} {g : TG} {tt : TT} {tk tv : TE} (hc : X.calm = true) (hN : X.N.Nodup) (hy : X.N[i]? = some y) (hyl : X.env.scope.names.lookup y = some .local)
    (hsw : swapsWith (.DictComp kx vx [⟨tg, iter, ifs, 0⟩] scope pos) (some (.Name y py)) spos.line X.env = pure true) (hi : L2.PI X tg iter wi) (ok : BlkOk X.N X.env.scope scope own)
    (hg : ∀ (s : Shared) (H : Hp) (C : Addr) (cs : List (Str × Addr)) (fp : List Addr), PG (X.blk s H scope (compEnvC scope cs C X.env) fp) tg g) (ht : ∀ (s : Shared) (H : Hp) (C : Addr) (cs : List (Str × Addr)) (fp : List Addr), PTs (X.blk s H scope (compEnvC scope cs C X.env) fp) ifs tt)
    (hk : ∀ (s : Shared) (H : Hp) (C : Addr) (cs : List (Str × Addr)) (fp : List Addr), PE (X.blk s H scope (compEnvC scope cs C X.env) fp) kx tk) (he : ∀ (s : Shared) (H : Hp) (C : Addr) (cs : List (Str × Addr)) (fp : List Addr), PE (X.blk s H scope (compEnvC scope cs C X.env) fp) vx tv)
    (hs : ∀ x, foldedSetIterable iter X.env x = pure x) : PS X (.Assign [.Name y py] (.DictComp kx vx [⟨tg, iter, ifs, 0⟩] scope pos) spos) (tAsg (tDc wi g tt tk tv (own.map (·.2))) (gName i)) := by
  refine ⟨fun pins s σ H D I h => ?_⟩
  rw [exec_Assign_Name_used _ _ _ _ hsw]; refine wpAny_bind (wpAny_standAt (wpAny_bind ?_))
  show wpAny _ X.A (do let _ ← comprehension (.DictComp kx vx [⟨tg, iter, ifs, 0⟩] scope pos) scope X.env (firstIterPos [⟨tg, iter, ifs, 0⟩] pos) newDict false (eval iter X.env) (some (assign (.Name y py) X.env))) _ _ s
  have h : tDc wi g tt tk tv (own.map (·.2)) σ H (fun x H1 => gName i x σ H1 D.nx) := h
  refine wpAny_bind (thn (dc_core (Qf := fun _ s' => SP X pins D .next s') hc hN I hi ok hg ht hk he hs h fun Lx C s' m H' I' q hn f => ?_) fun _ s' hq => wpAny_pure (wpAny_pure hq))
  show wpAny _ _ (assign (.Name y py) X.env (.ref Lx)) _ _ _
  refine wpAny_assign_Name (store_ok2 (v := V.ref Lx) I' hN hy (.inl hyl) rfl (fun s2 I2 ⟨a, sb, ha⟩ => ?_) (.inr hyl))
  obtain ⟨g0, g1, g2, g3, g4, g5⟩ := f
  have haC : C ≠ a := by
    rcases ha with z | z
    · rw [z]
      exact g1
    · exact fun e => g4 y a z e.symm
  refine ⟨m, hn.sameBut sb haC, fun h4 sb4 => ?_⟩
  exact ⟨_, H', I2.turned (t' := s2.toks) (fun b o hb e => (sb4.2 b hb).trans e) g0 g1 g3 g4 g5, q⟩
/-- what a slot holds, frozen in place -/
theorem SRep.fzAt {K : PySem.W.Frag} {cl : Cl} {G H : Hp} {L : Lab} {σ : L2.St} {ρ : Rho} (hs : SRep K cl σ H G L ρ) {i : Nat} {o : O} (e1 : ρ[i]? = some (some o)) : ∃ G' L', SRep K cl σ H G' L' (ρ.set i (some (.fz o.frz))) ∧ Frame H G L H G' L' := by
  obtain ⟨v, ev⟩ := hs.all i _ e1
  have hi := (List.getElem?_eq_some_iff.mp e1).1
  obtain ⟨r1, r2, r3⟩ := hs.rep.freeze (rootsOf_some.mpr ⟨ev, e1⟩)
  refine ⟨_, _, ⟨by simp [hs.len], fun j o2 e => ?_, ⟨r1.ge, r1.sep, r1.imm, fun j w o2 e => ?_, fun b p l => ?_⟩⟩, r3⟩
  · by_cases y : j = i
    · subst y; exact ⟨v, ev⟩
    · rw [List.getElem?_set_ne (Ne.symm y)] at e
      exact hs.all j o2 e
  · obtain ⟨e3, e4⟩ := rootsOf_some.mp e
    by_cases y : j = i
    · subst y
      rw [List.getElem?_set_self hi] at e4
      rw [ev] at e3
      cases e3
      cases e4
      exact r2
    · rw [List.getElem?_set_ne (Ne.symm y)] at e4
      refine r1.rep j w o2 ?_
      rw [if_neg y]
      exact rootsOf_some.mpr ⟨e3, e4⟩
  · obtain ⟨j, r', e3, e4⟩ := r1.own b p l
    refine ⟨j, r', e3, ?_⟩
    by_cases y : j = i
    · subst y; rw [rootsOf_some.mpr ⟨ev, List.getElem?_set_self hi⟩]; rfl
    · rw [if_neg y] at e4
      obtain ⟨⟨w, o2⟩, e5⟩ := Option.isSome_iff_exists.mp e4
      obtain ⟨e6, e7⟩ := rootsOf_some.mp e5
      rw [rootsOf_some.mpr ⟨e6, by rw [List.getElem?_set_ne (Ne.symm y)]; exact e7⟩]
      rfl
/-- a store is as good as the store of what is frozen -/
theorem SS.fz {st : Stmt} {i : Nat} {g : MO} (h : SS X cl pr st (sAsg i g)) : SS X cl pr st (sAsg i (oFz (mFrz g))) := PS.weak h fun D σ H ⟨G, L, ρ, fl, ρ', hs, hg, q⟩ => by
  unfold sAsg oFz mFrz at hg
  split at hg
  · rename_i o ρ1 e1
    split at hg
    · rename_i z
      cases hg
      split at e1
      · rename_i d ρ2 e2
        cases e1
        split at e2
        · rename_i o2 ρ3 e3
          cases e2
          refine ⟨G, L, ρ, .nx, ρ1.set i (some o2), hs, by unfold sAsg; rw [e3]; dsimp only; rw [z], fun σ' H' G' L' s' f' k' => ?_⟩
          have hi : i < ρ1.length := of_decide_eq_true z
          obtain ⟨G2, L2, s2, f2⟩ := s'.fzAt (i := i) (o := o2) (List.getElem?_set_self hi)
          rw [List.set_set] at s2
          exact q σ' H' G2 L2 s2 (f'.trans f2) k'
        · cases e2
      · cases e1
    · cases hg
  · cases hg
/-- x = {.. for ..} on one line -/
theorem ss_setDc (i : Nat) {x : Str} {kx vx iter : Expr} {ifs : List Expr} {scope : Scope} {own : List (Str × Nat)} {gi : MI} {T : List Nat} {bd : MG} {t : MB} {gk gv : MD} {cpos : Pos} (hi : SI X cl tg iter gi) (ok : BlkOk X.N X.env.scope scope own)
    (hb : ∀ (s : Shared) (H : Hp) (C : Addr) (cs : List (Str × Addr)) (fp : List Addr), SG (X.blk s H scope (compEnvC scope cs C X.env) fp) cl tg T bd)
    (ht : ∀ (s : Shared) (H : Hp) (C : Addr) (cs : List (Str × Addr)) (fp : List Addr), STs (X.blk s H scope (compEnvC scope cs C X.env) fp) cl ifs t)
    (hk : ∀ (s : Shared) (H : Hp) (C : Addr) (cs : List (Str × Addr)) (fp : List Addr), SD (X.blk s H scope (compEnvC scope cs C X.env) fp) cl kx gk)
    (he : ∀ (s : Shared) (H : Hp) (C : Addr) (cs : List (Str × Addr)) (fp : List Addr), SD (X.blk s H scope (compEnvC scope cs C X.env) fp) cl vx gv)
    (hN : X.N.Nodup) (hy : X.N[i]? = some x := by rfl) (hyl : X.env.scope.names.lookup x = some .local := by rfl) (hp : i ∉ pr := by decide) (hsw : swapsWith (.DictComp kx vx [⟨tg, iter, ifs, 0⟩] scope cpos) (some (.Name x pos')) pos.line X.env = pure true := by exact sw_dc rfl rfl rfl (by decide +kernel))
    (hT : ∀ i ∈ T, i ∈ own.map (·.2) := by decide) (hc : X.calm = true := by rfl) (hs : ∀ x, foldedSetIterable iter X.env x = pure x := by intro _; rfl) :
    SS X cl pr (.Assign [.Name x pos'] (.DictComp kx vx [⟨tg, iter, ifs, 0⟩] scope cpos) pos) (sAsg i (oDc gi (own.map (·.2)) bd t gk gv)) :=
  PS.weak (ps_setDc (wi := tI X cl gi) (g := tG X cl T bd) (tt := tB' X cl t) (tk := tD X cl gk) (tv := tD X cl gv) hc hN hy hyl hsw hi ok hb ht hk he hs) fun D σ H h => dc_reads hT (asg_reads hp h)
end
end PI
set_option Elab.async false
set_option linter.all false
set_option maxRecDepth 100000
set_option maxHeartbeats 1000000
set_option autoImplicit false
/-! PI21: len(set(t)) of a tuple of integers. -/
namespace PI
open PySem PySem.Spec L2
def ddI : List Int → List Int
  | [] => []
  | n :: ns => match decide (n ∈ ns) with
    | true => ddI ns
    | false => n :: ddI ns
theorem ddI_mem : ∀ (ns : List Int) (k : Int), k ∈ ddI ns ↔ k ∈ ns
  | [], k => Iff.rfl
  | n :: ns, k => by
    have ih := ddI_mem ns k
    unfold ddI
    split
    · rename_i z
      have z := of_decide_eq_true z
      rw [ih, List.mem_cons]
      constructor
      · exact .inr
      · rintro (rfl | h)
        · exact z
        · exact h
    · rw [List.mem_cons, List.mem_cons, ih]
theorem ddI_nodup : ∀ ns : List Int, (ddI ns).Nodup
  | [] => List.nodup_nil
  | n :: ns => by
    unfold ddI
    split
    · exact ddI_nodup ns
    · rename_i z
      have z := of_decide_eq_false z
      rw [List.nodup_cons]
      exact ⟨fun h => z ((ddI_mem ns n).mp h), ddI_nodup ns⟩
def tLenSetT (K : PySem.W.Frag) (ta : TE) : TE := fun σ H Q => ta σ H fun x H1 => ∃ (p : Addr) (ns : List Int), x = .ref p ∧ SqT K H1 p (ns.map V.int) ∧ ns.length ≤ 1000 ∧ Q (.int ((ddI ns).length : Nat)) H1
theorem pe_lenSetT {X : Cx} {a : Expr} {ta : TE} {p p2 q pos : Pos} (hg : Gl X "len") (hm : X.mg "len" = none) (hg2 : Gl X "set") (hm2 : X.mg "set" = none) (ha : PE X a ta) (hc : X.calm = true)
    (na : starEach [a] X.env = (false, eval a X.env) :: starEach [] X.env) : PE X (.Call (.Name "len" p) [.Call (.Name "set" p2) [a] [] q] [] pos) (tLenSetT X.K ta) := by
  refine ⟨fun pins s σ H Q I h => ?_⟩
  refine PyProof.Rows.Call_ (ld_blt I hg hm boot_len (PyProof.Rows.callWith_builtin1 (PyProof.Rows.args_cons ?_ rfl) rfl rfl))
  refine PyProof.Rows.Call_ (ld_blt I hg2 hm2 PyProof.Rows.boot_set (PyProof.Rows.callWith_type1 (PyProof.Rows.args_cons (thn (ha.run pins s σ H _ I h) fun v s1 ⟨x, H1, I1, r1, q1⟩ => PyProof.Rows.args_nil ?_) na) na rfl))
  obtain ⟨l, ns, ex, hq, hl, q1⟩ := q1
  subst ex
  cases r1
  obtain ⟨its, r, pt, hz⟩ := I1.tuple hq
  refine call_set_tupI ns (I1.ok.hd hc) (show s1.heap.IsTuple l its.toArray from pt) (ints_of_vals r) (by unfold scanBound; omega) fun h' tk c R1 hcn hk => PyProof.Rows.args_nil ?_
  obtain ⟨o, es, ep, t, ho, hex, hd, _, nd, hm3, hb, hf, _⟩ := R1
  have I2 : Inv X pins σ H1 { s1 with heap := h', toks := tk } := I1.kept fun b o e => hk b o e
  have hsz : es.size = (ddI ns).length := by
    have hp : (es.toList.map keyOf).Perm (ddI ns) := (List.perm_ext_iff_of_nodup nd (ddI_nodup ns)).mpr fun k => by
      rw [← hm3 k, decide_eq_true_iff, ddI_mem]
    have := hp.length_eq
    simpa using this
  exact call_len_set ho hex hd hf (by unfold scanBound at hb; omega) ⟨.int ((ddI ns).length : Nat), H1, I2.tok _, ⟨_, by rw [hsz]⟩, q1⟩
section
variable {X : Cx} {cl : Cl} {a : Expr}
def intsD : List D → Option (List Int)
  | [] => some []
  | .int i :: ds => (match intsD ds with
    | some is => some (i :: is)
    | none => none)
  | _ => none
theorem ints_ok {K : PySem.W.Frag} {cl : Cl} {G : Hp} : ∀ {ds : List D} {vs : List V} {ns : List Int}, intsD ds = some ns → RepVs K cl G vs ds → vs = ns.map V.int
  | [], vs, ns, e, r => by
    cases e
    cases r
    rfl
  | .int i :: ds, vs, ns, e, ⟨v, us, e0, r, rs⟩ => by
    simp only [intsD] at e
    split at e
    · rename_i is e1
      cases e
      have := ints_ok e1 rs
      subst e0 this
      cases r
      rfl
    · cases e
  | .bl _ :: ds, _, _, e, _ => by simp [intsD] at e
  | .non :: ds, _, _, e, _ => by simp [intsD] at e
  | .str _ :: ds, _, _, e, _ => by simp [intsD] at e
  | .tup _ :: ds, _, _, e, _ => by simp [intsD] at e
  | .lst _ :: ds, _, _, e, _ => by simp [intsD] at e
  | .rol _ :: ds, _, _, e, _ => by simp [intsD] at e
  | .dct _ _ :: ds, _, _, e, _ => by simp [intsD] at e
  | .obj _ _ _ :: ds, _, _, e, _ => by simp [intsD] at e
def mLenSet (g : MD) : MD := fun ρ => match g ρ with
  | some (.tup ds, ρ1) => (match intsD ds with
    | some ns => (match decide (ns.length ≤ 1000) with
      | true => some (.int ((ddI ns).length : Nat), ρ1)
      | false => none)
    | none => none)
  | _ => none
theorem sd_lenSet {p p2 q pos : Pos} {g : MD} (hm : X.mg "len" = none) (hm2 : X.mg "set" = none) (ha : SD X cl a g) (hg : Gl X "len" := by rfl) (hg2 : Gl X "set" := by rfl) (hc : X.calm = true := by rfl)
    (na : starEach [a] X.env = (false, eval a X.env) :: starEach [] X.env := by rfl) : SD X cl (.Call (.Name "len" p) [.Call (.Name "set" p2) [a] [] q] [] pos) (mLenSet g) :=
  PE.weak (pe_lenSetT hg hm hg2 hm2 ha hc na) fun σ H Q ⟨G, L, ρ, d, ρ', hs, hg, q⟩ => by
    unfold mLenSet at hg
    split at hg
    · rename_i ds ρ1 e1
      split at hg
      · rename_i ns e2
        split at hg
        · rename_i z
          cases hg
          refine ⟨G, L, ρ, .tup ds, _, hs, e1, fun v H1 G1 L1 s1 r1 f1 => ?_⟩
          obtain ⟨p, vs, rfl, hp, rv⟩ := r1
          have := ints_ok e2 rv
          subst this
          exact ⟨p, ns, rfl, (s1.le.tup hp).seq, of_decide_eq_true z, q _ _ _ _ s1 rfl f1⟩
        · cases hg
      · cases hg
    · cases hg
end
end PI
set_option Elab.async false
set_option linter.all false
set_option maxRecDepth 100000
set_option maxHeartbeats 1000000
set_option autoImplicit false
/-! PI22: list(zip(a, b)) of two lists. -/
namespace PI
open PySem PySem.Spec PyProof.Rows L2
/-- new pairs, one behind another -/
inductive Chain : Hp → List Addr → List (V × V) → Hp → Prop
  | nil {H : Hp} : Chain H [] [] H
  | snoc {H H' : Hp} {ts : List Addr} {ps : List (V × V)} {t : Addr} {x y : V} (c : Chain H ts ps H') (f : H' t = none) : Chain H (ts ++ [t]) (ps ++ [(x, y)]) (upd H' t (.tup [x, y]))
theorem Chain.le {H H' : Hp} {ts : List Addr} {ps : List (V × V)} (c : Chain H ts ps H') : ∀ b u, H b = some u → H' b = some u := by
  induction c with
  | nil => exact fun _ _ h => h
  | snoc c f ih =>
    intro b u h
    have h2 := ih b u h
    rw [upd_ne (fun z => by rw [z, f] at h2; cases h2)]
    exact h2
theorem Chain.len {H H' : Hp} {ts : List Addr} {ps : List (V × V)} (c : Chain H ts ps H') : ts.length = ps.length := by
  induction c with
  | nil => rfl
  | snoc c f ih => simp [ih]
def ZSt (h : Heap) (z TI TO i1 i2 S : Addr) : Prop :=
  (IsZip h z TI TO .none ∧ ∃ a b, IsPair h TO a b) ∨ ∃ T f oT, IsZipHeld h z TI TO T f ∧ h.get? T = some oT ∧ T ≠ z ∧ T ≠ i1 ∧ T ≠ i2 ∧ T ≠ S
theorem ZSt.keep {h h2 : Heap} {z TI TO i1 i2 S : Addr} (q : ZSt h z TI TO i1 i2 S) (k : ∀ c o, c ≠ S → h.get? c = some o → h2.get? c = some o) (n1 : z ≠ S) (n2 : TO ≠ S) : ZSt h2 z TI TO i1 i2 S := by
  rcases q with ⟨hz, a, b, hTO⟩ | ⟨T, f, oT, hz, hT, t1, t2, t3, t4⟩
  · exact .inl ⟨k _ _ n1 hz, a, b, k _ _ n2 hTO⟩
  · exact .inr ⟨T, f, oT, k _ _ n1 hz, k _ _ t4 hT, t1, t2, t3, t4⟩
section
variable {X : Cx} {pins : List (Addr × Obj)} {σ : L2.St} {A : Around} {R : Result → Shared → Prop} {z TI TO i1 i2 l1 l2 S : Addr} {H0 : Hp} {xs ys : List V} {res : Value}
theorem zip_loop (hh : A.in1.handled = none) (D : ZipApart z TI TO i1 i2 l1 l2) (hx : SqL X.K H0 l1 xs) (hy : SqL X.K H0 l2 ys) (hn : xs.length ≤ sizeLine) (hS1 : S ≠ z ∧ S ≠ TI ∧ S ≠ TO ∧ S ≠ i1 ∧ S ≠ i2)
    (fp : ∀ b ∈ [z, TO, i1, i2, S], ∀ H : Hp, H b = none → FpOk X pins H b)
    (hR : ∀ (s' : Shared) (Hc : Hp) (ts : List Addr) (acc : Array Value) (c : Nat), Inv X pins σ Hc s' → Chain H0 ts (xs.zip ys) Hc → Hc S = none → s'.heap.get? S = some { cls := .type "list", dict := none, data := .seq acc c, slots := #[] } → acc.toList = ts.map Value.ref → R (.ok (.ret res)) s') :
    ∀ (k i : Nat) (s : Shared) (Hc : Hp) (ts : List Addr) (acc : Array Value) (c : Nat), (xs.zip ys).length - i = k → i ≤ (xs.zip ys).length → Inv X pins σ Hc s → Chain H0 ts ((xs.zip ys).take i) Hc → (∀ b ∈ [z, TO, i1, i2, S], Hc b = none) →
      IsPair s.heap TI (.ref i1) (.ref i2) → s.heap.IsListIter i1 l1 i → s.heap.IsListIter i2 l2 i → ZSt s.heap z TI TO i1 i2 S → s.heap.get? S = some { cls := .type "list", dict := none, data := .seq acc c, slots := #[] } → acc.toList = ts.map Value.ref → TO < s.heap.objs.size →
      codeAny (model X.prog X.w) A (.builtin "list.extend.loop" ⟨[.ref S, .ref z, res], []⟩) R s := by
  have hzl : (xs.zip ys).length = min xs.length ys.length := List.length_zip
  intro k
  induction k with
  | zero =>
    intro i s Hc ts acc c hk hi I C free hTI h1 h2 hz hS hacc hTOl
    have hin : i = (xs.zip ys).length := by omega
    obtain ⟨its, r1, p1, _⟩ := I.list ((show Le H0 Hc from C.le).seq hx)
    obtain ⟨its2, r2, p2, _⟩ := I.list ((show Le H0 Hc from C.le).seq hy)
    have hend : its.toArray[i]? = none ∨ its2.toArray[i]? = none := by
      have e1 := r1.length
      have e2 := r2.length
      rcases Nat.le_total xs.length ys.length with h | h
      · exact .inl (by simp; omega)
      · exact .inr (by simp; omega)
    refine codeAny_builtin F.entry_extend_loop ?_
    rw [Around.under_plainId F.plain_extend_loop _]
    show wpAny _ A.in1 (pyNext (.ref z) >>= _) _ _ s
    have fin : ∀ h' : Heap, (∀ c o, c ≠ z → c ≠ TO → c ≠ i1 → c ≠ i2 → s.heap.get? c = some o → h'.get? c = some o) → R (.ok (.ret res)) { s with heap := h' } := fun h' hk2 => by
      have I2 : Inv X pins σ Hc { s with heap := h' } := I.turnedL (t' := s.toks) (ch := [z, TO, i1, i2]) (fun b o hb e => hk2 b o (fun q => hb (by simp [q])) (fun q => hb (by simp [q])) (fun q => hb (by simp [q])) (fun q => hb (by simp [q])) e)
        (fun b hb => fp b (by simp at hb ⊢; rcases hb with q | q | q | q <;> simp [q]) Hc (free b (by simp at hb ⊢; rcases hb with q | q | q | q <;> simp [q])))
      refine hR _ Hc ts acc c I2 ?_ (free S (by simp)) (hk2 S _ hS1.1 hS1.2.2.1 hS1.2.2.2.1 hS1.2.2.2.2 hS) hacc
      rw [hin, List.take_length] at C
      exact C
    rcases hz with ⟨hz, a, b, hTO⟩ | ⟨T, f, oT, hz, hT, t1, t2, t3, t4⟩
    · exact wpAny_bind (wpAny_pyNext_zip_end hh D hz hTI hTO h1 h2 p1.isList p2.isList hend fun h' hk2 => wpAny_pure (fin h' hk2))
    · exact wpAny_bind (wpAny_pyNext_zip_end_held hh D hz hT hTI h1 h2 p1.isList p2.isList hend fun h' hk2 => wpAny_pure (fin h' fun c o c1 _ c3 c4 e => hk2 c o c1 c3 c4 e))
  | succ k ih =>
    intro i s Hc ts acc c hk hi I C free hTI h1 h2 hz hS hacc hTOl
    have hlt : i < (xs.zip ys).length := by omega
    have hix : i < xs.length := by omega
    have hiy : i < ys.length := by omega
    obtain ⟨its, r1, p1, _⟩ := I.list ((show Le H0 Hc from C.le).seq hx)
    obtain ⟨its2, r2, p2, _⟩ := I.list ((show Le H0 Hc from C.le).seq hy)
    obtain ⟨u, hu, ru⟩ := r1.get (List.getElem?_eq_getElem hix)
    obtain ⟨u2, hu2, ru2⟩ := r2.get (List.getElem?_eq_getElem hiy)
    have lt : ∀ {c : Addr} {o : Obj}, s.heap.get? c = some o → s.heap.objs.size ≠ c := fun e => Nat.ne_of_gt (Heap.lt_size e)
    have nS : s.heap.objs.size ≠ S := lt hS
    have ni1 : s.heap.objs.size ≠ i1 := let ⟨_, e, _⟩ := h1; lt e
    have ni2 : s.heap.objs.size ≠ i2 := let ⟨_, e, _⟩ := h2; lt e
    have nTI : s.heap.objs.size ≠ TI := lt hTI
    refine codeAny_builtin F.entry_extend_loop ?_
    rw [Around.under_plainId F.plain_extend_loop _]
    show wpAny _ A.in1 (pyNext (.ref z) >>= _) _ _ s
    have len : acc.size = i := by
      have e1 := congrArg List.length hacc
      have e2 := C.len
      simp at e1 e2
      omega
    have go : ∀ h' : Heap, s.heap.objs.size ≠ z → ZSt h' z TI TO i1 i2 S → h'.IsListIter i1 l1 (i + 1) → h'.IsListIter i2 l2 (i + 1) → IsPair h' s.heap.objs.size u u2 → h'.objs.size = s.heap.objs.size + 1 →
        (∀ c o, c ≠ z → c ≠ TO → c ≠ i1 → c ≠ i2 → s.heap.get? c = some o → h'.get? c = some o) → S ≠ TO →
        codeAny (model X.prog X.w) A (.builtin "list.extend.loop" ⟨[.ref S, .ref z, res], []⟩) R { s with heap := h'.update S (Obj.mapSeq (·.push (.ref s.heap.objs.size))) } := fun h' nz zs' it1 it2 hT hsz hk2 hSTO => by
      have new : ObjOk X.prog X.w (upd Hc s.heap.objs.size (.tup [xs[i], ys[i]])) h' s.heap.objs.size (.tup [xs[i], ys[i]]) :=
        ⟨by show 2 ≤ sizeLine; decide, [u, u2], .cons ru (.cons ru2 .nil), ⟨_, hT, rfl, _, rfl⟩⟩
      have hfr : Hc s.heap.objs.size = none := I.hok.fresh (Nat.le_refl _)
      have I1 : Inv X pins σ (upd Hc s.heap.objs.size (.tup [xs[i], ys[i]])) { s with heap := h' } :=
        I.turnedNew (t' := s.toks) (ch := [z, TO, i1, i2]) (fun b o hb e => hk2 b o (fun q => hb (by simp [q])) (fun q => hb (by simp [q])) (fun q => hb (by simp [q])) (fun q => hb (by simp [q])) e)
          (fun b hb => fp b (by simp at hb ⊢; rcases hb with q | q | q | q <;> simp [q]) Hc (free b (by simp at hb ⊢; rcases hb with q | q | q | q <;> simp [q]))) (Nat.le_refl _) new
      have hS' : h'.get? S = some { cls := .type "list", dict := none, data := .seq acc c, slots := #[] } := hk2 S _ hS1.1 hSTO hS1.2.2.2.1 hS1.2.2.2.2 hS
      have oth : ∀ b o, b ≠ S → h'.get? b = some o → (h'.update S (Obj.mapSeq (·.push (Value.ref s.heap.objs.size)))).get? b = some o := fun b o hb e => (Heap.get?_update_other _ _ (Ne.symm hb)).trans e
      have freeS : upd Hc s.heap.objs.size (.tup [xs[i], ys[i]]) S = none := by rw [upd_ne (Ne.symm nS)]; exact free S (by simp)
      have I2 : Inv X pins σ (upd Hc s.heap.objs.size (.tup [xs[i], ys[i]])) { s with heap := h'.update S (Obj.mapSeq (·.push (Value.ref s.heap.objs.size))) } :=
        Inv.turnedL (s := { s with heap := h' }) (t' := s.toks) (ch := [S]) I1 (fun b o hb e => oth b o (by simpa using hb) e) (fun b hb => by
          have : b = S := by simpa using hb
          subst this
          exact fp b (by simp) _ freeS)
      have ev : (xs.zip ys).take (i + 1) = (xs.zip ys).take i ++ [(xs[i], ys[i])] := by
        rw [List.take_add_one, List.getElem?_eq_getElem hlt, List.getElem_zip]
        rfl
      have nTO : s.heap.objs.size ≠ TO := Nat.ne_of_gt hTOl
      refine ih (i + 1) _ (upd Hc s.heap.objs.size (.tup [xs[i], ys[i]])) (ts ++ [s.heap.objs.size]) (acc.push (.ref s.heap.objs.size)) _ (by omega) hlt I2 (by rw [ev]; exact C.snoc hfr) (fun b hb => ?_) (oth _ _ hS1.2.1.symm (hk2 _ _ D.TIz D.TITO D.TIi1 D.TIi2 hTI))
        (it1.at fun o e => oth _ o hS1.2.2.2.1.symm e) (it2.at fun o e => oth _ o hS1.2.2.2.2.symm e) (zs'.keep oth hS1.1.symm hSTO.symm) (Heap.get?_update_self _ hS' rfl) (by rw [Array.toList_push, hacc]; simp) ?_
      · have nb : b ≠ s.heap.objs.size := by
          simp at hb
          rcases hb with q | q | q | q | q
          · rw [q]; exact nz.symm
          · rw [q]; exact nTO.symm
          · rw [q]; exact ni1.symm
          · rw [q]; exact ni2.symm
          · rw [q]; exact nS.symm
        rw [upd_ne nb]
        exact free b hb
      · show TO < (h'.update S _).objs.size
        rw [(Heap.SameBut.update ..).1, hsz]
        exact Nat.lt_succ_of_lt hTOl
    have step : ∀ h' : Heap, s.heap.objs.size ≠ z → ZSt h' z TI TO i1 i2 S → h'.IsListIter i1 l1 (i + 1) → h'.IsListIter i2 l2 (i + 1) → IsPair h' s.heap.objs.size u u2 → h'.objs.size = s.heap.objs.size + 1 →
        (∀ c o, c ≠ z → c ≠ TO → c ≠ i1 → c ≠ i2 → s.heap.get? c = some o → h'.get? c = some o) →
        wpAny (model X.prog X.w) A.in1 (updateSeq S (·.push (.ref s.heap.objs.size)) >>= fun _ => again (.builtin "list.extend.loop" ⟨[.ref S, .ref z, res], []⟩)) (fun fin s' => match fin with | .done f => R (.ok f) s' | .again c' => c'.quiet = true ∧ codeAny (model X.prog X.w) A c' R s') (fun e s' => R (.error e) s') { s with heap := h' } := fun h' nz zs' it1 it2 hT hsz hk2 => by
      have hS' : h'.get? S = some { cls := .type "list", dict := none, data := .seq acc c, slots := #[] } := hk2 S _ hS1.1 hS1.2.2.1 hS1.2.2.2.1 hS1.2.2.2.2 hS
      refine wpAny_bind ?_
      refine wpAny_updateSeq (s := { s with heap := h' }) hS' rfl (wpAny_pure ⟨plainId_quiet F.plain_extend_loop _, go h' nz zs' it1 it2 hT hsz hk2 hS1.2.2.1⟩) ?_ ?_
      · rw [len]; omega
      · show (acc.push _).size ≤ sizeLine + 1
        rw [Array.size_push, len]
        omega
    rcases hz with ⟨hz, a, b, hTO⟩ | ⟨T, f, oT, hz, hT, t1, t2, t3, t4⟩
    · refine wpAny_bind (wpAny_pyNext_zip_item D hz hTI hTO h1 h2 p1.isList p2.isList (by simpa using hu) (by simpa using hu2) fun h' a1 a2 a3 a4 a5 a6 hk2 => ?_)
      exact step h' (lt hz) (.inr ⟨s.heap.objs.size, false, _, a1, a5, lt hz, ni1, ni2, nS⟩) a3 a4 a5 a6 hk2
    · refine wpAny_bind (wpAny_pyNext_zip_item_held D hz hT hTI h1 h2 p1.isList p2.isList (by simpa using hu) (by simpa using hu2) fun h' a1 a3 a4 a5 a6 hk2 => ?_)
      exact step h' (lt hz) (.inr ⟨T, true, oT, a1, hk2 _ _ t1 t2 t3 hT, t1, t2, t3, t4⟩) a3 a4 a5 a6 fun c o c1 _ c3 c4 e => hk2 c o c1 c3 c4 e
end
end PI
set_option Elab.async false
set_option linter.all false
set_option maxRecDepth 100000
set_option maxHeartbeats 1000000
set_option autoImplicit false
/-! PI23: list(zip(a, b)) of two lists, the call. -/
namespace PI
open PySem PySem.Spec PyProof.Rows L2
theorem zip_noLen : typeLookup (.type "zip") "__len__" = pure none := by rw [typeLookup_type, builtinLookup_eq_fast]; kernel_rfl
theorem zip_noHint : typeLookup (.type "zip") "__length_hint__" = pure none := by rw [typeLookup_type, builtinLookup_eq_fast]; kernel_rfl
section
variable {prog : Program} {w : World} {A : Around} {s : Shared} {R : Result → Shared → Prop} {z TI TO S : Addr} {f0 : Value}
/-- what list's extension does ahead of its loop -/
theorem zip_ahead (hz : IsZip s.heap z TI TO f0) (hSz : S ≠ z) (res : Value) (c0 : Nat) (hS : s.heap.get? S = some { cls := .type "list", data := .seq #[] c0 })
    (hR : ∀ (h' : Heap) (c1 : Nat), (∀ b o, b ≠ S → s.heap.get? b = some o → h'.get? b = some o) → h'.objs.size = s.heap.objs.size → h'.get? S = some { cls := .type "list", data := .seq #[] c1 } →
      codeAny (model prog w) A (.builtin "list.extend.loop" ⟨[.ref S, .ref z, res], []⟩) R { s with heap := h' }) :
    wpAny (model prog w) A.in1 (Builtin.List.listExtendWith (.ref S) (.ref z) res)
      (fun fin s' => match fin with | .done f => R (.ok f) s' | .again c' => c'.quiet = true ∧ codeAny (model prog w) A c' R s') (fun e s' => R (.error e) s') s := by
  have hT : s.TypeIs (.ref z) "zip" := ⟨_, hz, rfl⟩
  unfold Builtin.List.listExtendWith
  refine wpAny_bind (wpAny_typeOf hT ?_)
  have q1 : Builtin.List.listSameRef (.ref S) (.ref z) = false := by simp [Builtin.List.listSameRef, hSz]
  have q2 : (Value.type "zip" == Value.type "list") = false := by decide
  have q3 : (Value.type "zip" == Value.type "tuple") = false := by decide
  simp only [q1, q2, q3, Bool.or_false, Bool.false_eq_true, if_false]
  refine wpAny_bind (wpAny_pyIter_zip hz ?_)
  refine wpAny_bind (wpAny_holding ?_)
  unfold Builtin.List.listLengthHint
  refine wpAny_bind (wpAny_specialOf hT zip_noLen ?_)
  show wpAny _ A.in1 (specialOf (Value.ref z) (Str.ofString "__length_hint__") >>= _) _ _ _
  refine wpAny_bind (wpAny_specialOf hT zip_noHint ?_)
  refine wpAny_pure ?_
  show wpAny _ A.in1 (rule "list.extend.makes-room" >>= fun _ => Builtin.List.listTouch (.ref S) >>= fun _ => again (.builtin "list.extend.loop" ⟨[.ref S, .ref z, res], []⟩)) _ _ _
  refine wpAny_bind (wpAny_rule ?_)
  refine wpAny_bind ?_
  show wpAny _ A.in1 (updateSeq S (·.push .none) >>= fun _ => updateSeq S (·.pop)) _ _ _
  refine wpAny_bind (wpAny_updateSeq hS rfl ?_)
  have hS2 := Heap.get?_update_self (Obj.mapSeq (·.push Value.none)) hS rfl
  refine wpAny_updateSeq (hz := by seq_fits) hS2 rfl ?_
  have hS3 := Heap.get?_update_self (Obj.mapSeq (·.pop)) hS2 rfl
  refine wpAny_pure ⟨plainId_quiet F.plain_extend_loop _, hR _ _ (fun b o hb e => (Heap.get?_update_other _ _ (Ne.symm hb)).trans ((Heap.get?_update_other _ _ (Ne.symm hb)).trans e)) ?_ hS3⟩
  rw [(Heap.SameBut.update ..).1, (Heap.SameBut.update ..).1]
theorem zip_init (hz : IsZip s.heap z TI TO f0) (hSz : S ≠ z) (hS : s.heap.get? S = some { cls := .type "list", data := .seq #[] })
    (hR : ∀ (h' : Heap) (c1 : Nat), (∀ b o, b ≠ S → s.heap.get? b = some o → h'.get? b = some o) → h'.objs.size = s.heap.objs.size → h'.get? S = some { cls := .type "list", data := .seq #[] c1 } →
      codeAny (model prog w) A (.builtin "list.extend.loop" ⟨[.ref S, .ref z, .none], []⟩) R { s with heap := h' }) :
    wpAny (model prog w) A.in1 (Builtin.«list.__init__» ⟨[.ref S, .ref z], []⟩)
      (fun fin s' => match fin with | .done f => R (.ok f) s' | .again c' => c'.quiet = true ∧ codeAny (model prog w) A c' R s') (fun e s' => R (.error e) s') s := by
  show wpAny _ A.in1 (do let old ← Builtin.List.listItems (.ref S); Builtin.List.listUpdate (.ref S) (fun _ => #[]); letGo old.toList.reverse; Builtin.List.listExtendWith (.ref S) (.ref z) .none) _ _ s
  refine wpAny_bind ?_
  unfold Builtin.List.listItems
  refine wpAny_bind (wpAny_seqItems hS rfl (wpAny_pure ?_))
  show wpAny _ A.in1 (updateSeq S (fun _ => #[]) >>= fun _ => letGo (#[] : Array Value).toList.reverse >>= fun _ => Builtin.List.listExtendWith (.ref S) (.ref z) .none) _ _ s
  refine wpAny_bind (wpAny_updateSeq hS rfl ?_)
  have hS2 := Heap.get?_update_self (Obj.mapSeq (fun _ => (#[] : Array Value))) hS rfl
  have oth : ∀ b o, b ≠ S → s.heap.get? b = some o → (s.heap.update S (Obj.mapSeq (fun _ => (#[] : Array Value)))).get? b = some o := fun b o hb e => (Heap.get?_update_other _ _ (Ne.symm hb)).trans e
  refine wpAny_bind (wpAny_letGo ?_)
  refine zip_ahead (oth _ _ (Ne.symm hSz) hz) hSz .none _ hS2 fun h' c1 k1 k2 k3 => ?_
  exact hR h' c1 (fun b o hb e => k1 b o hb (oth b o hb e)) (by rw [k2, (Heap.SameBut.update ..).1]) k3
theorem call_list_zip {E : Value → Shared → Prop} {Q : Value → Shared → Prop} (hz : IsZip s.heap z TI TO f0)
    (hQ : ∀ (h' : Heap) (c1 : Nat) (R : Result → Shared → Prop), (∀ b o, s.heap.get? b = some o → h'.get? b = some o) → h'.objs.size = s.heap.objs.size + 1 → h'.get? s.heap.objs.size = some { cls := .type "list", data := .seq #[] c1 } →
      (∀ s', Q (.ref s.heap.objs.size) s' → R (.ok (.ret .none)) s') → codeAny (model prog w) A.in1 (.builtin "list.extend.loop" ⟨[.ref s.heap.objs.size, .ref z, .none], []⟩) R { s with heap := h' }) :
    wpAny (model prog w) A (call (.type "list") [.ref z]) Q E s := by
  have hlt : z < s.heap.objs.size := Heap.lt_size hz
  refine callType_codes (Q₁ := fun obj s₁ => obj = .ref s.heap.objs.size ∧ s₁ = { s with heap := s.heap.push { cls := .type "list", data := .seq #[] } }) F.called_list (F.typeCall_list_1 _) F.entry_list_init
    (code_list_new _ ⟨rfl, rfl⟩) fun obj s₁ e₁ => ?_
  obtain ⟨rfl, rfl⟩ := e₁
  have hS : (s.heap.push { cls := .type "list", data := .seq #[] }).get? s.heap.objs.size = some { cls := .type "list", data := .seq #[] } := Heap.get?_push_size _ rfl
  refine ⟨⟨_, hS, rfl⟩, F.args_list_init_2 _ _, zip_init (s := { s with heap := s.heap.push { cls := .type "list", data := .seq #[] } }) (Heap.get?_push_of_some _ hz) (Nat.ne_of_gt hlt) hS fun h' c1 k1 k2 k3 => ?_⟩
  exact hQ h' c1 _ (fun b o e => k1 b o (Nat.ne_of_lt (Heap.lt_size e)) (Heap.get?_push_of_some _ e)) (by rw [k2]; exact Heap.size_push ..) k3 fun s' q => ⟨rfl, q⟩
end
end PI
set_option Elab.async false
set_option linter.all false
set_option maxRecDepth 100000
set_option maxHeartbeats 1000000
set_option autoImplicit false
/-! PI24: list(zip(a, b)) as an expression. -/
namespace PI
open PySem PySem.Spec PyProof.Rows L2
section
variable {X : Cx} {pins : List (Addr × Obj)} {σ : L2.St} {H : Hp} {s : Shared}
/-- an object of ours becomes a tracked one -/
theorem inv_own {S : Addr} {ob : HO} (I : Inv X pins σ H s) (hf : FpOk X pins H S) (new : ObjOk X.prog X.w (upd H S ob) s.heap S ob) : Inv X pins σ (upd H S ob) s := by
  have hn : H S = none := hf.1
  refine I.step (h' := s.heap) (g' := s.gens) (d' := s.drawn) (t' := s.toks) (ch := [S]) (fun b hb => ?_) (fun b o _ _ _ e _ => e) (fun b o _ _ _ e _ => ⟨o.slots, e⟩) (fun b o hc e n => ?_) (fun b o _ e => ⟨o, e⟩) (fun b xs e => ?_) (fun b o u e => ?_) (fun b ps e => ⟨#[], ?_⟩) (fun m hm => hm) (fun b u e => ?_) I.bare
  · have : b = S := by simpa using hb
    subst this
    exact ⟨hf.2.2.2.1, hf.2.1, hf.2.2.2.2.1, hf.2.2.2.2.2⟩
  · rw [upd_ne (by simpa using hc)]
    exact n
  · rw [upd_ne (ne_of_none e hn)]
    exact e
  · rw [upd_ne (ne_of_none e hn)]
    exact e
  · rw [upd_ne (ne_of_none e hn), e]
    simp
  · by_cases hb : b = S
    · subst hb
      rw [upd_same] at e
      cases e
      exact new
    · rw [upd_ne hb] at e
      exact (I.hok b u e).stay (fun c v hc q => q) (fun c q => by rw [upd_ne (ne_of_none q hn)]; exact q) fun c xs q => by rw [upd_ne (ne_of_none q hn)]; exact q
theorem vals_refs : ∀ ts : List Addr, Vals (ts.map V.ref) (ts.map Value.ref)
  | [] => .nil
  | t :: ts => .cons rfl (vals_refs ts)
/-- what list(zip(a, b)) reads: two lists -/
def tLZ (K : PySem.W.Frag) (t : TA) : TE := fun σ H Q => t σ H fun vs H1 => ∃ (a b : Addr) (xs ys : List V), vs = [.ref a, .ref b] ∧ SqL K H1 a xs ∧ SqL K H1 b ys ∧ xs.length ≤ sizeLine ∧ ∀ (ts : List Addr) (H2 : Hp) (p : Addr), Chain H1 ts (xs.zip ys) H2 → H2 p = none → Q (.ref p) (upd H2 p (.lst (ts.map V.ref)))
theorem pe_lz {a b : Expr} {t : TA} {p p2 q pos : Pos} (hc : X.calm = true) (hg : Gl X "list") (hm : X.mg "list" = none) (hg2 : Gl X "zip") (hm2 : X.mg "zip" = none) (ht : PA X [a, b] t)
    (na : starEach [.Call (.Name "zip" p2) [a, b] [] q] X.env = (false, eval (.Call (.Name "zip" p2) [a, b] [] q) X.env) :: starEach [] X.env) (hs : starEach [a, b] X.env = (false, eval a X.env) :: starEach [b] X.env) (hpl : (backTo q (starEach [b] X.env)).any (·.1) = false) :
    PE X (.Call (.Name "list" p) [.Call (.Name "zip" p2) [a, b] [] q] [] pos) (tLZ X.K t) := by
  refine ⟨fun pins s σ H Q I h => ?_⟩
  refine Call_ (ld_blt I hg hm boot_list (callWith_type1 (args_cons ?_ na) na rfl))
  refine Call_ (ld_blt I hg2 hm2 boot_zip (callWith_type1 (thn (ht.run q pins s σ H _ I h) fun us s1 ⟨vs, H1, I1, r1, q1⟩ => ?_) hs hpl))
  obtain ⟨l1, l2, xs, ys, ev, hx, hy, hn, q1⟩ := q1
  subst ev
  cases r1 with
  | cons r rr =>
    cases rr with
    | cons r' rr =>
      cases rr
      cases r
      cases r'
      obtain ⟨its, rv, p1, _⟩ := I1.list hx
      obtain ⟨its2, rv2, p2', _⟩ := I1.list hy
      have la : l1 < s1.heap.objs.size := p1.lt
      have lb : l2 < s1.heap.objs.size := p2'.lt
      refine call_zip_2 p1.isList p2'.isList fun h' hz hTI hTO hi1 hi2 hsz hk => args_nil ?_
      have I2 : Inv X pins σ H1 { s1 with heap := h' } := I1.kept (t' := s1.toks) hk
      have D := PySem.W.ktu_apart s1.heap.objs.size l1 l2 la lb
      have hA : X.A.in1.in1.handled = none := I1.ok.hd hc
      refine call_list_zip hz fun h2 c1 R k1 k2 k3 hR => ?_
      have I3 : Inv X pins σ H1 { s1 with heap := h2 } := Inv.kept (s := { s1 with heap := h' }) (t' := s1.toks) I2 k1
      have fr : ∀ b : Addr, s1.heap.objs.size ≤ b → ∀ Hc : Hp, Hc b = none → FpOk X pins Hc b := fun b hb Hc hn2 => I1.fpOk hb hn2
      have hsz' : ({ s1 with heap := h' } : Shared).heap.objs.size = s1.heap.objs.size + 5 := hsz
      have ge : ∀ b ∈ [s1.heap.objs.size + 4, s1.heap.objs.size + 3, s1.heap.objs.size, s1.heap.objs.size + 1, h'.objs.size], s1.heap.objs.size ≤ b := fun b hb => by
        simp at hb
        rcases hb with e | e | e | e | e <;> omega
      refine zip_loop (X := X) (pins := pins) (σ := σ) (H0 := H1) (xs := xs) (ys := ys) (A := X.A.in1) hA D hx hy hn ⟨(show h'.objs.size ≠ s1.heap.objs.size + 4 by omega), (show h'.objs.size ≠ s1.heap.objs.size + 2 by omega), (show h'.objs.size ≠ s1.heap.objs.size + 3 by omega), (show h'.objs.size ≠ s1.heap.objs.size by omega), (show h'.objs.size ≠ s1.heap.objs.size + 1 by omega)⟩ (fun b hb Hc hn2 => fr b (ge b hb) Hc hn2) (fun s' Hc ts acc c I4 C hS hg4 ha => hR s' ?_)
        _ 0 { s1 with heap := h2 } H1 [] #[] c1 rfl (Nat.zero_le _) I3 .nil (fun b hb => I1.hok.fresh (ge b hb)) (k1 _ _ hTI) (hi1.at fun o e => k1 _ o e) (hi2.at fun o e => k1 _ o e) (.inl ⟨k1 _ _ hz, _, _, k1 _ _ hTO⟩) k3 rfl ?_
      · have hl : ts.length ≤ sizeLine := by
          have e1 := C.len
          have e2 : (xs.zip ys).length = min xs.length ys.length := List.length_zip
          omega
        have I5 : Inv X pins σ (upd Hc h'.objs.size (.lst (ts.map V.ref))) s' := inv_own I4 (fr _ (by omega) _ hS) ⟨by simpa using hl, ts.map Value.ref, c, vals_refs ts, by rw [← ha]; simpa using hg4⟩
        exact ⟨.ref h'.objs.size, _, I5, rfl, q1 ts Hc _ C hS⟩
      · show s1.heap.objs.size + 3 < h2.objs.size
        rw [k2]
        show _ < h'.objs.size + 1
        omega
end
section
variable {X : Cx} {cl : Cl} {a b : Expr}
def zipP : List D → List D → List D
  | x :: xs, y :: ys => .tup [x, y] :: zipP xs ys
  | _, _ => []
def mLZ (f : MDs) : MD := fun ρ => match f ρ with
  | some ([.lst xs, .lst ys], ρ1) => (match decide (xs.length ≤ sizeLine) with
    | true => some (.lst (zipP xs ys), ρ1)
    | false => none)
  | _ => none
theorem reps_snoc {K : PySem.W.Frag} {G : Hp} {v : V} {d : D} : ∀ {ds : List D} {vs : List V}, RepVs K cl G (vs ++ [v]) (ds ++ [d]) → RepVs K cl G vs ds ∧ RepV K cl G v d
  | [], [], ⟨_, _, e, r, rs⟩ => by
    cases e
    exact ⟨rfl, r⟩
  | [], w :: vs, ⟨_, _, e, r, rs⟩ => by
    cases rs
    simp at e
  | x :: ds, [], ⟨_, _, e, r, rs⟩ => by
    simp at e
    obtain ⟨rfl, rfl⟩ := e
    have := rs.length
    simp at this
  | x :: ds, w :: vs, ⟨_, _, e, r, rs⟩ => by
    simp at e
    obtain ⟨rfl, rfl⟩ := e
    obtain ⟨a1, a2⟩ := reps_snoc rs
    exact ⟨⟨_, _, rfl, r, a1⟩, a2⟩
/-- the pairs' trees along the chain -/
theorem chain_rep {K : PySem.W.Frag} {G H : Hp} (hle : Le G H) : ∀ {ts : List Addr} {ps : List (V × V)} {H2 : Hp}, Chain H ts ps H2 → ∀ {qs : List (D × D)}, RepVs K cl G (ps.map (·.1)) (qs.map (·.1)) → RepVs K cl G (ps.map (·.2)) (qs.map (·.2)) →
    ∃ G2, Ext H G H2 G2 ∧ RepVs K cl G2 (ts.map V.ref) (qs.map fun q => .tup [q.1, q.2]) := by
  intro ts ps H2 c
  induction c with
  | nil =>
    intro qs h1 h2
    have : qs = [] := by
      have := h1.length
      simp at this
      exact List.length_eq_zero_iff.mp this.symm
    subst this
    exact ⟨G, Ext.refl hle, rfl⟩
  | snoc c f ih =>
    rename_i H' ts ps t x y
    intro qs h1 h2
    have hl := h1.length
    rw [List.map_append, List.length_append, List.length_map] at hl
    have hne : qs ≠ [] := by
      intro e
      subst e
      simp at hl
    obtain ⟨qs0, q, rfl⟩ : ∃ qs0 q, qs = qs0 ++ [q] := ⟨qs.dropLast, qs.getLast hne, (List.dropLast_concat_getLast hne).symm⟩
    rw [List.map_append, List.map_append] at h1 h2
    obtain ⟨a1, a2⟩ := reps_snoc h1
    obtain ⟨b1, b2⟩ := reps_snoc h2
    obtain ⟨G2, ex, rr⟩ := ih a1 b1
    have e2 := Ext.new ex.ge f (.tup [x, y])
    refine ⟨_, ex.trans e2, ?_⟩
    rw [List.map_append, List.map_append]
    exact (rr.mono e2.le).append ⟨.ref t, [], rfl, ⟨t, [x, y], rfl, .inl upd_same, x, [y], rfl, (a2.mono ex.le).mono e2.le, y, [], rfl, (b2.mono ex.le).mono e2.le, rfl⟩, rfl⟩
theorem zip_reps {K : PySem.W.Frag} {G : Hp} : ∀ {xs ys : List D} {vs ws : List V}, RepVs K cl G vs xs → RepVs K cl G ws ys → ∃ qs : List (D × D), zipP xs ys = (qs.map fun q => .tup [q.1, q.2]) ∧ RepVs K cl G ((vs.zip ws).map (·.1)) (qs.map (·.1)) ∧ RepVs K cl G ((vs.zip ws).map (·.2)) (qs.map (·.2))
  | [], ys, vs, ws, h1, _ => by
    cases h1
    exact ⟨[], by simp [zipP], rfl, rfl⟩
  | x :: xs, [], vs, ws, _, h2 => by
    cases h2
    exact ⟨[], by simp [zipP], by simp; rfl, by simp; rfl⟩
  | x :: xs, y :: ys, _, _, ⟨v, vs, e1, r1, rs1⟩, ⟨w, ws, e2, r2, rs2⟩ => by
    subst e1 e2
    obtain ⟨qs, a, b, c⟩ := zip_reps rs1 rs2
    exact ⟨(x, y) :: qs, by simp [zipP, a], ⟨v, _, rfl, r1, b⟩, ⟨w, _, rfl, r2, c⟩⟩
theorem sd_lz {f : MDs} {p p2 q pos : Pos} (hm : X.mg "list" = none) (hm2 : X.mg "zip" = none) (ht : SDs X cl [a, b] f) (hc : X.calm = true := by rfl) (hg : Gl X "list" := by rfl) (hg2 : Gl X "zip" := by rfl)
    (na : starEach [.Call (.Name "zip" p2) [a, b] [] q] X.env = (false, eval (.Call (.Name "zip" p2) [a, b] [] q) X.env) :: starEach [] X.env := by rfl) (hs : starEach [a, b] X.env = (false, eval a X.env) :: starEach [b] X.env := by rfl) (hpl : (backTo q (starEach [b] X.env)).any (·.1) = false := by rfl) :
    SD X cl (.Call (.Name "list" p) [.Call (.Name "zip" p2) [a, b] [] q] [] pos) (mLZ f) := PE.weak (pe_lz hc hg hm hg2 hm2 ht na hs hpl) fun σ H Q ⟨G, L, ρ, d, ρ', hs, hg, k⟩ => by
  unfold mLZ at hg
  split at hg
  · rename_i xs ys ρ1 e1
    split at hg
    · rename_i z
      cases hg
      refine ⟨G, L, ρ, [.lst xs, .lst ys], _, hs, e1, fun vs H1 G1 L1 s1 r1 f1 => ?_⟩
      obtain ⟨v, ws, rfl, ⟨p, vs1, rfl, hp, rv⟩, ⟨v2, ws2, rfl, ⟨p', vs2, rfl, hp', rv'⟩, e5⟩⟩ := r1
      cases e5
      refine ⟨p, p', vs1, vs2, rfl, SqL.of (s1.le _ _ hp), SqL.of (s1.le _ _ hp'), by rw [rv.length]; exact of_decide_eq_true z, fun ts H2 w C hw => ?_⟩
      obtain ⟨qs, eq, ra, rb⟩ := zip_reps rv rv'
      obtain ⟨G2, ex, rr⟩ := chain_rep s1.le C ra rb
      have e2 := Ext.new ex.ge hw (.lst (ts.map V.ref))
      have e3 := ex.trans e2
      obtain ⟨s3, f3⟩ := s1.ext e3
      exact k (.ref w) _ _ L1 s3 (by rw [eq]; exact ⟨w, _, rfl, upd_same, rr.mono e2.le⟩) (f1.trans f3)
    · cases hg
  · cases hg
end
end PI
set_option Elab.async false
set_option linter.all false
set_option maxRecDepth 100000
set_option maxHeartbeats 1000000
set_option autoImplicit false
/-! PI25: one step of each form's meaning, as rules for plain laws. -/
namespace PI
open PySem PySem.Spec L2
theorem ev_op {f : D → D → Option D} {ga gb : MD} {ρ ρ1 ρ2 : Rho} {x y d : D} (ha : ga ρ = some (x, ρ1)) (hb : gb ρ1 = some (y, ρ2)) (hf : f x y = some d) : mOp2 f ga gb ρ = some (d, ρ2) := by
  unfold mOp2; rw [ha]; dsimp only; rw [hb]; dsimp only; rw [hf]
theorem ev_op1 {f : D → Option D} {ga : MD} {ρ ρ1 : Rho} {x d : D} (ha : ga ρ = some (x, ρ1)) (hf : f x = some d) : mOp1 f ga ρ = some (d, ρ1) := by
  unfold mOp1; rw [ha]; dsimp only; rw [hf]
theorem ev_fn {f : List D → Option D} {g : MDs} {ρ ρ1 : Rho} {ds : List D} {d : D} (e : g ρ = some (ds, ρ1)) (e2 : f ds = some d) : mFn f g ρ = some (d, ρ1) := by
  unfold mFn; rw [e]; dsimp only; rw [e2]
theorem ev_cons {g : MD} {f : MDs} {ρ ρ1 ρ2 : Rho} {ds : List D} {d : D} (e : g ρ = some (d, ρ1)) (e2 : f ρ1 = some (ds, ρ2)) : dsCons g f ρ = some (d :: ds, ρ2) := by
  unfold dsCons; rw [e]; dsimp only; rw [e2]
theorem ev_one {g : MD} {ρ ρ1 : Rho} {d : D} (e : g ρ = some (d, ρ1)) : dsCons g dsNil ρ = some ([d], ρ1) := ev_cons e rfl
theorem ev_tup {f : MDs} {ρ ρ1 : Rho} {ds : List D} (e : f ρ = some (ds, ρ1)) (h : ds.length ≤ sizeLine) : mTup f ρ = some (.tup ds, ρ1) := by
  unfold mTup; rw [e]; dsimp only; rw [decide_eq_true h]
theorem ev_lst {f : MDs} {ρ ρ1 : Rho} {ds : List D} (e : f ρ = some (ds, ρ1)) (h : ds.length ≤ sizeLine) : oLst f ρ = some (.lst (ds.map .fz), ρ1) := by
  unfold oLst; rw [e]; dsimp only; rw [decide_eq_true h]
theorem ev_peek {g : MD} {ρ ρ1 : Rho} {d : D} (e : g (viewAll ρ) = some (d, ρ1)) (hi : d.imm = true := by rfl) : mPeek g ρ = some (d, ρ) := by
  unfold mPeek; rw [e]; dsimp only; rw [hi]
theorem ev_bpeek {g : MB} {ρ ρ1 : Rho} {k : Bool} (e : g (viewAll ρ) = some (k, ρ1)) : bPeek g ρ = some (k, ρ) := by
  unfold bPeek; rw [e]
theorem ev_b {g : MD} {ρ ρ1 : Rho} {k : Bool} (e : g ρ = some (.bl k, ρ1)) : bOf g ρ = some (k, ρ1) := by
  unfold bOf; rw [e]
theorem ev_not {g : MB} {ρ ρ1 : Rho} {k : Bool} (e : g ρ = some (k, ρ1)) : bNot g ρ = some (!k, ρ1) := by
  unfold bNot; rw [e]
theorem ev_frz {g : MO} {ρ ρ1 : Rho} {o : O} {d : D} (e : g ρ = some (o, ρ1)) (h : o.frz = d) : mFrz g ρ = some (d, ρ1) := by
  unfold mFrz; rw [e]; dsimp only; rw [h]
theorem ev_fz {g : MD} {ρ ρ1 : Rho} {d : D} (e : g ρ = some (d, ρ1)) : oFz g ρ = some (.fz d, ρ1) := by
  unfold oFz; rw [e]
theorem ev_asg {i : Nat} {g : MO} {ρ ρ1 : Rho} {o : O} (e : g ρ = some (o, ρ1)) (hi : decide (i < ρ1.length) = true := by rfl) : sAsg i g ρ = some (.nx, ρ1.set i (some o)) := by
  unfold sAsg; rw [e]; dsimp only; rw [hi]
theorem ev_ret {g : MO} {ρ ρ1 : Rho} {o : O} (e : g ρ = some (o, ρ1)) : sRet g ρ = some (.rt o, ρ1) := by
  unfold sRet; rw [e]
theorem ev_unp {g : MD} {b : MG} {ρ ρ1 ρ2 : Rho} {d : D} (e : g ρ = some (d, ρ1)) (e2 : b d ρ1 = some ρ2) : sUnp g b ρ = some (.nx, ρ2) := by
  unfold sUnp; rw [e]; dsimp only; rw [e2]
theorem ev_if {c : MB} {g h : MS} {ρ ρ1 : Rho} {k : Bool} {r : Option (Fl × Rho)} (e : c ρ = some (k, ρ1)) (e2 : (match k with | true => g ρ1 | false => h ρ1) = r) : sIf c g h ρ = r := by
  unfold sIf; rw [e]; cases k <;> exact e2
theorem ev_for {gi : MI} {b : MG} {body : MS} {ρ ρ1 : Rho} {ds : List D} {r : Option (Fl × Rho)} (e : gi ρ = some (ds, ρ1)) (e2 : forLoop b body ds ρ1 = r) : sFor gi b body ρ = r := by
  unfold sFor; rw [e]; exact e2
theorem ev_for1 {b : MG} {body : MS} {ρ ρ1 ρ2 : Rho} {d : D} {ds : List D} {r : Option (Fl × Rho)} (e : b d ρ = some ρ1) (e2 : body ρ1 = some (.nx, ρ2)) (e3 : forLoop b body ds ρ2 = r) : forLoop b body (d :: ds) ρ = r := by
  unfold forLoop; rw [e]; dsimp only; rw [e2]; exact e3
theorem ev_forR {b : MG} {body : MS} {ρ ρ1 ρ2 : Rho} {d : D} {ds : List D} {o : O} (e : b d ρ = some ρ1) (e2 : body ρ1 = some (.rt o, ρ2)) : forLoop b body (d :: ds) ρ = some (.rt o, ρ2) := by
  unfold forLoop; rw [e]; dsimp only; rw [e2]
theorem ev_while1 {c : MB} {body : MS} {n : Nat} {ρ ρ1 ρ2 : Rho} {r : Option (Fl × Rho)} (e : c ρ = some (true, ρ1)) (e2 : body ρ1 = some (.nx, ρ2)) (e3 : whileLoop c body n ρ2 = r) : whileLoop c body (n + 1) ρ = r := by
  unfold whileLoop; rw [e]; dsimp only; rw [e2]; exact e3
theorem ev_while0 {c : MB} {body : MS} {n : Nat} {ρ ρ1 : Rho} (e : c ρ = some (false, ρ1)) : whileLoop c body (n + 1) ρ = some (.nx, ρ1) := by
  unfold whileLoop; rw [e]
theorem ev_comp {gi : MI} {vs : List Nat} {b : MG} {t : MB} {g : MD} {ρ ρ1 ρ2 : Rho} {ds xs : List D} (e : gi ρ = some (ds, ρ1)) (h : (fzAt ρ1 vs && decide (ds.length ≤ sizeLine)) = true) (e2 : compLoop vs b t g ds (wipeR ρ1 vs) = some (xs, ρ2)) :
    oComp gi vs b t g ρ = some (.lst (xs.map .fz), restR ρ1 vs ρ2) := by
  unfold oComp; rw [e]; dsimp only; rw [h]; dsimp only; rw [e2]
theorem ev_comp1 {vs : List Nat} {b : MG} {t : MB} {g : MD} {ρ ρ1 ρ2 ρ3 : Rho} {d x : D} {ds : List D} {xs : List D} {ρ4 : Rho} (e : b d ρ = some ρ1) (et : t ρ1 = some (true, ρ2)) (eg : g ρ2 = some (x, ρ3)) (ec : compLoop vs b t g ds (wipeR ρ3 vs) = some (xs, ρ4)) :
    compLoop vs b t g (d :: ds) ρ = some (x :: xs, ρ4) := by
  unfold compLoop; rw [e]; dsimp only; rw [et]; dsimp only; rw [eg]; dsimp only; rw [ec]
theorem ev_comp0 {vs : List Nat} {b : MG} {t : MB} {g : MD} {ρ ρ1 ρ2 : Rho} {d : D} {ds : List D} {r : Option (List D × Rho)} (e : b d ρ = some ρ1) (et : t ρ1 = some (false, ρ2)) (ec : compLoop vs b t g ds (wipeR ρ2 vs) = r) :
    compLoop vs b t g (d :: ds) ρ = r := by
  unfold compLoop; rw [e]; dsimp only; rw [et]; exact ec
theorem ev_call {fn : Fn} {ks : Lends} {f : MA} {ρ ω ρ1 : Rho} {as : List O} {r : O} {as' : Rho} (e : f ρ = some (ω, ρ1)) (eg : gather ks ω ρ1 = some as) (ef : fn as = some (r, as')) (hl : as'.length = as.length) : mCall fn ks f ρ = some (r, setL ks as' ρ1) := by
  unfold mCall; rw [e]; dsimp only; rw [eg]; dsimp only; rw [ef]; dsimp only; rw [decide_eq_true hl]
theorem ev_callD {fn : Fn} {f : MDs} {ρ ρ1 : Rho} {ds : List D} {r : O} {as' : Rho} (e : f ρ = some (ds, ρ1)) (ef : fn (ds.map .fz) = some (r, as')) (hl : as'.length = ds.length) : oCallD fn f ρ = some (r, ρ1) := by
  unfold oCallD; rw [e]; dsimp only; rw [ef]; dsimp only; rw [decide_eq_true hl]
theorem ev_newD {c : Nat} {fn : Fn} {f : MDs} {ρ : Rho} {r : Option (O × Rho)} (e : oNewD c fn f ρ = r) : oNewD c fn f ρ = r := e
theorem ev_put {i : Nat} {gk g : MD} {ρ ρ1 ρ2 : Rho} {d y : D} {k : Key} {ks : List Key} {os : List O} {o0 o1 : O} (e : g ρ = some (d, ρ1)) (ek : gk ρ1 = some (y, ρ2)) (hk : keyD y = some k) (e3 : ρ2[i]? = some (some (.dct ks os))) (e4 : ρ1[i]? = some (some o0)) (hl : ks.length < sizeLine)
    (eo : (match hasK ks k with | true => O.dct ks (putO ks os k d) | false => .dct (ks ++ [k]) (os ++ [.fz d])) = o1) : sPut i gk g ρ = some (.nx, ρ2.set i (some o1)) := by
  unfold sPut; rw [e]; dsimp only; rw [ek]; dsimp only; rw [hk, e3, e4]; dsimp only; rw [decide_eq_true hl]; dsimp only; subst eo; cases hasK ks k <;> rfl
theorem ev_append {i : Nat} {g : MO} {ρ ρ1 : Rho} {os0 os : List O} {o : O} (e0 : ρ[i]? = some (some (.lst os0))) (e : g ρ = some (o, ρ1)) (e1 : ρ1[i]? = some (some (.lst os))) (hl : os.length < sizeLine) : sAppend i g ρ = some (.nx, ρ1.set i (some (.lst (os ++ [o])))) := by
  unfold sAppend; rw [e0]; dsimp only; rw [e]; dsimp only; rw [e1]; dsimp only; rw [decide_eq_true hl]
theorem ev_seq {g : MD} {ρ ρ1 : Rho} {ds : List D} (e : iSeq g ρ = some (ds, ρ1)) : iSeq g ρ = some (ds, ρ1) := e
theorem ev_seqT {g : MD} {ρ ρ1 : Rho} {ds : List D} (e : g ρ = some (.tup ds, ρ1)) : iSeq g ρ = some (ds, ρ1) := by
  unfold iSeq; rw [e]
theorem ev_seqL {g : MD} {ρ ρ1 : Rho} {ds : List D} (e : g ρ = some (.lst ds, ρ1)) : iSeq g ρ = some (ds, ρ1) := by
  unfold iSeq; rw [e]
theorem ev_slice {g : MD} {l h : Rho → Option (Option Int × Rho)} {ρ ρ1 ρ2 ρ3 : Rho} {x d : D} {lo hi : Option Int} (e : g ρ = some (x, ρ1)) (el : l ρ1 = some (lo, ρ2)) (eh : h ρ2 = some (hi, ρ3)) (ed : dSlice x lo hi = some d) : mSlice g l h ρ = some (d, ρ3) := by
  unfold mSlice; rw [e]; dsimp only; rw [el]; dsimp only; rw [eh]; dsimp only; rw [ed]
theorem ev_some {g : MD} {ρ ρ1 : Rho} {i : Int} (e : g ρ = some (.int i, ρ1)) : pSome g ρ = some (some i, ρ1) := by
  unfold pSome; rw [e]
theorem ev_mif {c : MB} {g h : MD} {ρ ρ1 : Rho} {k : Bool} {r : Option (D × Rho)} (e : c ρ = some (k, ρ1)) (e2 : (match k with | true => g ρ1 | false => h ρ1) = r) : mIf c g h ρ = r := by
  unfold mIf; rw [e]; cases k <;> exact e2
theorem ev_andT {g h : MB} {ρ ρ1 : Rho} {r : Option (Bool × Rho)} (e : g ρ = some (true, ρ1)) (e2 : h ρ1 = r) : bAnd g h ρ = r := by
  unfold bAnd; rw [e]; exact e2
theorem ev_andF {g h : MB} {ρ ρ1 : Rho} (e : g ρ = some (false, ρ1)) : bAnd g h ρ = some (false, ρ1) := by
  unfold bAnd; rw [e]
theorem ev_orF {g h : MB} {ρ ρ1 : Rho} {r : Option (Bool × Rho)} (e : g ρ = some (false, ρ1)) (e2 : h ρ1 = r) : bOr g h ρ = r := by
  unfold bOr; rw [e]; exact e2
theorem ev_orT {g h : MB} {ρ ρ1 : Rho} (e : g ρ = some (true, ρ1)) : bOr g h ρ = some (true, ρ1) := by
  unfold bOr; rw [e]
theorem ev_run {np n : Nat} {pr : List Nat} {body : MS} {as : List O} {o : O} {ρ' as' : Rho} (e : body (as.map some ++ List.replicate (n - np) none) = some (.rt o, ρ')) (h1 : (decide (as.length = np) && PI.argsOk pr 0 as) = true) (h2 : decide (n ≤ ρ'.length) = true) (h3 : finA pr 0 as ρ' = as') :
    runDef np n pr body as = some (o, as') := by
  unfold runDef; rw [h1]; dsimp only; rw [e]; dsimp only; rw [h2, ← h3]
theorem ev_dct1 {vs : List Nat} {b : MG} {t : MB} {gk gv : MD} {ds : List D} {d y x : D} {k : Key} {ρ ρ1 ρ2 ρ3 ρ4 : Rho} {ks : List Key} {xs : List D} {r : Option (List Key × List D × Rho)} (e : b d ρ = some ρ1) (et : t ρ1 = some (true, ρ2)) (ek : gk ρ2 = some (y, ρ3)) (hk : keyD y = some k) (ev : gv ρ3 = some (x, ρ4))
    (er : dcLoop vs b t gk gv ds (wipeR ρ4 vs) (putKs ks k) (putDs ks xs k x) = r) : dcLoop vs b t gk gv (d :: ds) ρ ks xs = r := by
  unfold dcLoop; rw [e]; dsimp only; rw [et]; dsimp only; rw [ek]; dsimp only; rw [hk]; dsimp only; rw [ev]; exact er
theorem ev_dc {gi : MI} {vs : List Nat} {b : MG} {t : MB} {gk gv : MD} {ρ ρ1 ρ2 : Rho} {ds xs : List D} {ks : List Key} (e : gi ρ = some (ds, ρ1)) (h : (fzAt ρ1 vs && decide (ds.length ≤ sizeLine)) = true) (e2 : dcLoop vs b t gk gv ds (wipeR ρ1 vs) [] [] = some (ks, xs, ρ2)) :
    oDc gi vs b t gk gv ρ = some (.dct ks (xs.map .fz), restR ρ1 vs ρ2) := by
  unfold oDc; rw [e]; dsimp only; rw [h]; dsimp only; rw [e2]
end PI
set_option Elab.async false
set_option linter.all false
set_option maxRecDepth 100000
set_option maxHeartbeats 1000000
set_option autoImplicit false
/-! PI26: a tuple of owned things; x, y = a call that returns one. -/
namespace PI
open PySem PySem.Spec L2
section
variable {K : PySem.W.Frag} {cl : Cl} {G G' H H' : Hp} {L L' : Lab} {σ σ' τ : St} {ρ ρ' ω : Rho}
/-- the temporary roots from n on go under one -/
def bunL (L : Lab) (n : Nat) : Lab := fun b => match L b with
  | some (m :: r) => if m < n then some (m :: r) else some (n :: (m - n) :: r)
  | _ => none
theorem bun_low {n m : Nat} {b : Addr} {r : Path} (l : L b = some (m :: r)) (h : m < n) : bunL L n b = some (m :: r) := by
  unfold bunL; rw [l]; show (if m < n then _ else _) = _; rw [if_pos h]
theorem bun_tmp {n j : Nat} {b : Addr} {r : Path} (l : L b = some ((n + j) :: r)) : bunL L n b = some (n :: j :: r) := by
  unfold bunL; rw [l]; show (if n + j < n then _ else _) = _; rw [if_neg (by omega)]; congr 3; omega
theorem bun_some {n : Nat} {b : Addr} {p : Path} (e : bunL L n b = some p) : ∃ m r, L b = some (m :: r) ∧ ((m < n ∧ p = m :: r) ∨ (n ≤ m ∧ p = n :: (m - n) :: r)) := by
  unfold bunL at e
  split at e
  · rename_i m r l
    split at e
    · rename_i z; cases e; exact ⟨m, r, l, .inl ⟨z, rfl⟩⟩
    · rename_i z; cases e; exact ⟨m, r, l, .inr ⟨by omega, rfl⟩⟩
  · cases e
theorem temps_rep {n : Nat} (hle : Le G G') (hH : ∀ b x, H b = some x → H' b = some x) : ∀ (os : List O) (vs : List V) (i : Nat), vs.length = os.length → (∀ j v o, vs[j]? = some v → os[j]? = some o → RepO K cl G H L [n + (i + j)] v o) →
    RepOs K cl G' H' (bunL L n) [n] i vs os
  | [], [], _, _, _ => rfl
  | [], _ :: _, _, e, _ => by simp at e
  | _ :: _, [], _, e, _ => by simp at e
  | o :: os, v :: vs, i, e, h => by
    refine ⟨v, vs, rfl, ?_, temps_rep hle hH os vs (i + 1) (by simpa using e) fun j v' o' e1 e2 => ?_⟩
    · have r := h 0 v o rfl rfl
      have := RepO.move (L := L) (H := H) (L' := bunL L n) (H' := H') (G' := G') (p := [n + i]) (p' := [n] ++ [i]) hle (fun b q l => ⟨by
        have := bun_tmp (n := n) (j := i) l
        simpa using this, hH b⟩) o v [] (by simpa using r)
      simpa using this
    · have := h (j + 1) v' o' (by simpa using e1) (by simpa using e2)
      rwa [show i + 1 + j = i + (j + 1) by omega]
theorem SRep.bundle {vs : List V} {os : List O} (h : SRep K cl (σ ++ vs.map some) H G L (ρ ++ os.map some)) (hl : σ.length = ρ.length) {p : Addr} (hp : H p = none) :
    ∃ L', SRep K cl (σ ++ [some (.ref p)]) (upd H p (.tup vs)) (upd G p (.tup vs)) L' (ρ ++ [some (.tup os)]) ∧ Frame H G L (upd H p (.tup vs)) (upd G p (.tup vs)) L' := by
  have ne : ∀ b x, H b = some x → b ≠ p := fun b x e z => by rw [z, hp] at e; cases e
  have ex := Ext.new h.le hp (.tup vs)
  have hvo : vs.length = os.length := by have := h.len; simp at this; omega
  refine ⟨bunL L ρ.length, ⟨by simp [hl], fun i o e => ?_, ⟨ex.ge, fun b q l => ?_, fun b xs e => ?_, fun i v o e => ?_, fun b q l => ?_⟩⟩, ⟨fun b x e l => ⟨by rw [upd_ne (ne b x e)]; exact e, by unfold bunL; rw [l], fun z => by rw [upd_ne (ne b x e)]; exact z⟩, ex.le⟩⟩
  · rw [get_app] at e ⊢
    rw [hl]
    split at e
    · rename_i z
      rw [if_pos z]
      obtain ⟨w, ew⟩ := h.all i o (by rw [List.getElem?_append_left z]; exact e)
      exact ⟨w, by rw [List.getElem?_append_left (by omega)] at ew; exact ew⟩
    · rename_i z
      rw [if_neg z]
      split at e
      · rename_i z2; rw [if_pos z2]; exact ⟨_, rfl⟩
      · cases e
  · obtain ⟨m, r, l0, _⟩ := bun_some l
    obtain ⟨g, x, hx⟩ := h.rep.sep b _ l0
    exact ⟨by rw [upd_ne (ne b x hx)]; exact g, x, by rw [upd_ne (ne b x hx)]; exact hx⟩
  · by_cases z : b = p
    · subst z; rw [upd_same] at e ⊢; exact e
    · rw [upd_ne z] at e ⊢; exact h.rep.imm b xs e
  · rw [rootsOf_app hl] at e
    split at e
    · rename_i hi
      have e0 : rootsOf (σ ++ vs.map some) (ρ ++ os.map some) i = some (v, o) := by rw [rootsOf_app hl, if_pos hi]; exact e
      have := RepO.move (L := L) (H := H) (L' := bunL L ρ.length) (H' := upd H p (.tup vs)) (G' := upd G p (.tup vs)) (p := [i]) (p' := [i]) ex.le (fun a q l => ⟨bun_low l hi, fun x hx => by rw [upd_ne (ne a x hx)]; exact hx⟩) o v [] (by simpa using h.rep.rep i v o e0)
      simpa using this
    · rename_i hi
      have ei : i = ρ.length := by
        have e2 := (rootsOf_some.mp e).1
        have := (List.getElem?_eq_some_iff.mp e2).1
        simp at this
        omega
      subst ei
      simp [rootsOf] at e
      obtain ⟨e1, e2⟩ := e
      subst e1 e2
      refine ⟨p, vs, rfl, .inl upd_same, temps_rep ex.le (fun b x hx => by rw [upd_ne (ne b x hx)]; exact hx) os vs 0 hvo fun j v o e1 e2 => ?_⟩
      refine h.rep.rep (ρ.length + (0 + j)) v o ?_
      rw [rootsOf_app hl, if_neg (by omega)]
      refine rootsOf_some.mpr ⟨?_, ?_⟩
      · rw [show ρ.length + (0 + j) - ρ.length = j by omega]; simp [e1]
      · rw [show ρ.length + (0 + j) - ρ.length = j by omega]; simp [e2]
  · obtain ⟨m, r, l0, z⟩ := bun_some l
    obtain ⟨m', r2, e3, e4⟩ := h.rep.own b _ l0
    cases e3
    rcases z with ⟨z, rfl⟩ | ⟨z, rfl⟩
    · refine ⟨m, r, rfl, ?_⟩
      rw [rootsOf_app hl, if_pos z] at e4 ⊢
      exact e4
    · refine ⟨_, _, rfl, ?_⟩
      rw [rootsOf_app hl, if_neg (by omega)]
      simp [rootsOf]
/-- the parts of the tuple under the temporary root n become temporary roots -/
def expL (L : Lab) (n k : Nat) : Lab := fun b => match L b with
  | some (m :: r) => if m = n then (match r with
    | j :: r' => if j < k then some ((n + j) :: r') else none
    | [] => none) else some (m :: r)
  | _ => none
theorem exp_low {n k m : Nat} {b : Addr} {r : Path} (l : L b = some (m :: r)) (h : m ≠ n) : expL L n k b = some (m :: r) := by
  unfold expL; rw [l]; show (if m = n then _ else _) = _; rw [if_neg h]
theorem exp_tmp {n k j : Nat} {b : Addr} {r : Path} (l : L b = some (n :: j :: r)) (h : j < k) : expL L n k b = some ((n + j) :: r) := by
  unfold expL; rw [l]; show (if n = n then (if j < k then _ else _) else _) = _; rw [if_pos rfl, if_pos h]
theorem exp_some {n k : Nat} {b : Addr} {p : Path} (e : expL L n k b = some p) : (∃ m r, L b = some (m :: r) ∧ m ≠ n ∧ p = m :: r) ∨ (∃ j r, L b = some (n :: j :: r) ∧ j < k ∧ p = (n + j) :: r) := by
  unfold expL at e
  split at e
  · rename_i m r l
    split at e
    · rename_i z
      subst z
      split at e
      · split at e
        · rename_i z2; cases e; exact .inr ⟨_, _, l, z2, rfl⟩
        · cases e
      · cases e
    · rename_i z; cases e; exact .inl ⟨m, r, l, z, rfl⟩
  · cases e
theorem parts_rep {n k : Nat} : ∀ (os : List O) (vs : List V) (i : Nat), i + os.length ≤ k → RepOs K cl G H L [n] i vs os → ∀ j v o, vs[j]? = some v → os[j]? = some o → RepO K cl G H (expL L n k) [n + (i + j)] v o
  | [], vs, i, _, _, j, v, o, _, e => by simp at e
  | o :: os, _, i, hk, ⟨v, vs, e0, r, rs⟩, 0, v', o', e1, e2 => by
    subst e0
    simp at e1 e2
    subst e1 e2
    simp only [List.length_cons] at hk
    have := RepO.move (L := L) (H := H) (L' := expL L n k) (H' := H) (G' := G) (p := [n] ++ [i]) (p' := [n + i]) Le.refl (fun b q l => ⟨exp_tmp (by simpa using l) (by omega), fun x hx => hx⟩) o v [] (by simpa using r)
    simpa using this
  | o :: os, _, i, hk, ⟨v, vs, e0, r, rs⟩, j + 1, v', o', e1, e2 => by
    subst e0
    simp only [List.length_cons] at hk
    have := parts_rep (k := k) os vs (i + 1) (by omega) rs j v' o' (by simpa using e1) (by simpa using e2)
    rwa [show i + 1 + j = i + (j + 1) by omega] at this
theorem RepOs.len : ∀ (os : List O) (vs : List V) (p : Path) (i : Nat), RepOs K cl G H L p i vs os → vs.length = os.length
  | [], _, _, _, r => by cases r; rfl
  | o :: os, _, p, i, ⟨v, vs, e, _, rs⟩ => by subst e; simp [RepOs.len os vs p (i + 1) rs]
theorem SRep.explode {v : V} {os : List O} (h : SRep K cl (σ ++ [some v]) H G L (ρ ++ [some (.tup os)])) :
    ∃ a vs, v = .ref a ∧ TupAt K G a vs ∧ vs.length = os.length ∧ ∃ L', SRep K cl (σ ++ vs.map some) H G L' (ρ ++ os.map some) ∧ Frame H G L H G L' := by
  have hl : σ.length = ρ.length := by simpa using h.len
  have e0 : rootsOf (σ ++ [some v]) (ρ ++ [some (.tup os)]) ρ.length = some (v, .tup os) := by
    rw [rootsOf_app hl, if_neg (by omega)]
    simp [rootsOf]
  obtain ⟨a, vs, rfl, t, rs⟩ := h.rep.rep ρ.length v _ e0
  have hvo : vs.length = os.length := rs.len
  refine ⟨a, vs, rfl, t, hvo, expL L ρ.length os.length, ⟨by simp; omega, fun i o e => ?_, ⟨h.rep.ge, fun b q l => ?_, h.rep.imm, fun i v o e => ?_, fun b q l => ?_⟩⟩, ⟨fun b x e l => ⟨e, by unfold expL; rw [l], id⟩, Le.refl⟩⟩
  · by_cases hi : i < ρ.length
    · rw [List.getElem?_append_left hi] at e
      obtain ⟨w, ew⟩ := h.all i o (by rw [List.getElem?_append_left hi]; exact e)
      exact ⟨w, by rw [List.getElem?_append_left (by omega)] at ew ⊢; exact ew⟩
    · have h2 := (List.getElem?_eq_some_iff.mp e).1
      simp at h2
      rw [List.getElem?_append_right (by omega)]
      have : i - σ.length < vs.length := by omega
      exact ⟨vs[i - σ.length], by simp [this]⟩
  · rcases exp_some l with ⟨m, r, l0, _, _⟩ | ⟨j, r, l0, _, _⟩
    · exact h.rep.sep b _ l0
    · exact h.rep.sep b _ l0
  · rw [rootsOf_app hl] at e
    split at e
    · rename_i hi
      have e1 : rootsOf (σ ++ [some (.ref a)]) (ρ ++ [some (.tup os)]) i = some (v, o) := by rw [rootsOf_app hl, if_pos hi]; exact e
      have := RepO.move (L := L) (H := H) (L' := expL L ρ.length os.length) (H' := H) (G' := G) (p := [i]) (p' := [i]) Le.refl (fun b q l => ⟨exp_low l (by omega), fun x hx => hx⟩) o v [] (by simpa using h.rep.rep i v o e1)
      simpa using this
    · rename_i hi
      obtain ⟨e1, e2⟩ := rootsOf_some.mp e
      have r := parts_rep (k := os.length) os vs 0 (by omega) rs (i - ρ.length) v o (by simpa using e1) (by simpa using e2)
      rwa [show ρ.length + (0 + (i - ρ.length)) = i by omega] at r
  · rcases exp_some l with ⟨m, r, l0, z, rfl⟩ | ⟨j, r, l0, z, rfl⟩
    · refine ⟨m, r, rfl, ?_⟩
      obtain ⟨m', r2, e3, e4⟩ := h.rep.own b _ l0
      cases e3
      rw [rootsOf_app hl] at e4 ⊢
      by_cases hm : m < ρ.length
      · rw [if_pos hm] at e4 ⊢; exact e4
      · rw [if_neg hm] at e4
        exfalso
        obtain ⟨⟨w, o'⟩, e5⟩ := Option.isSome_iff_exists.mp e4
        have := (List.getElem?_eq_some_iff.mp (rootsOf_some.mp e5).1).1
        simp at this
        omega
    · refine ⟨ρ.length + j, r, rfl, ?_⟩
      rw [rootsOf_app hl, if_neg (by omega), show ρ.length + j - ρ.length = j by omega]
      have hj : j < vs.length := by omega
      have : rootsOf (vs.map some) (os.map some) j = some (vs[j], os[j]) := rootsOf_some.mpr ⟨by simp [hj], by simp [z]⟩
      rw [this]
      rfl
end
section
variable {X : Cx} {cl : Cl} {e a b c tg : Expr} {es : List Expr} {pos pos' : Pos} {pr : List Nat}
def noLend : Lends → Bool
  | [] => true
  | none :: ks => noLend ks
  | some _ :: _ => false
def osOf : Rho → Option (List O)
  | [] => some []
  | some o :: ω => (match osOf ω with
    | some os => some (o :: os)
    | none => none)
  | none :: _ => none
theorem osOf_ok : ∀ {ω : Rho} {os : List O}, osOf ω = some os → ω = os.map some
  | [], _, e => by cases e; rfl
  | some o :: ω, os, e => by
    unfold osOf at e
    split at e
    · rename_i os' e1
      cases e
      rw [osOf_ok e1]
      rfl
    · cases e
  | none :: _, _, e => by cases e
/-- a tuple of owned things -/
def oTup (f : MA) : MO := fun ρ => match f ρ with
  | some (ω, ρ1) => (match osOf ω, decide (ω.length ≤ sizeLine) && decide (ρ1.length = ρ.length) with
    | some os, true => some (.tup os, ρ1)
    | _, _ => none)
  | none => none
theorem so_tupO {f : MA} {ks : Lends} {k : Nat} (h : SA X cl es ks f) : SO X cl (.Tuple es k pos) (oTup f) := PE.weak (pe_tup h) fun σ H Q ⟨G, L, ρ, o, ρ', hs, hg, q⟩ => by
  unfold oTup at hg
  split at hg
  · rename_i ω ρ1 e1
    split at hg
    · rename_i os eo z
      cases hg
      obtain ⟨z1, z2⟩ := Bool.and_eq_true_iff.mp z
      have z1 := of_decide_eq_true z1
      have z2 := of_decide_eq_true z2
      have eo := osOf_ok eo
      subst eo
      refine ⟨G, L, ρ, os.map some, _, hs, e1, fun vs H1 G1 L1 s1 n1 _ f1 => ?_⟩
      have hl : σ.length = ρ'.length := by have := hs.len; omega
      have hvo : vs.length = os.length := by have := s1.len; simp at this; omega
      refine ⟨by rw [hvo]; simpa using z1, fun p hp => ?_⟩
      obtain ⟨L2, s2, f2⟩ := s1.bundle hl hp
      exact q _ _ _ L2 s2 (f1.trans f2)
    · cases hg
  · cases hg
/-- targets that take the parts over -/
def gSets : List V → List Nat → St → St
  | v :: vs, i :: is, σ => gSets vs is (σ.set i (some v))
  | _, _, σ => σ
inductive Tgs (X : Cx) : List Expr → List Nat → Prop where
  | nil : Tgs X [] []
  | cons {e : Expr} {i : Nat} {es : List Expr} {is : List Nat} (h : PG X e (gName i)) (hr : Tgs X es is) (hs : (assignEach (e :: es) X.env).map (·.2) = assign e X.env :: (assignEach es X.env).map (·.2) := by rfl) : Tgs X (e :: es) (i :: is)
theorem tgs_ok {es : List Expr} {is : List Nat} (h : Tgs X es is) : PGs X es (fun vs σ H Q => vs.length = is.length ∧ Q (gSets vs is σ) H) := by
  induction h with
  | nil => 
    refine ⟨fun pins s σ H vs us Q I r ⟨e, q⟩ => pgs_nil.run pins s σ H vs us Q I r ⟨List.eq_nil_of_length_eq_zero e, ?_⟩⟩
    have : vs = [] := List.eq_nil_of_length_eq_zero e
    subst this
    exact q
  | cons h1 hr hs ih =>
    refine ⟨fun pins s σ H vs us Q I r ⟨e, q⟩ => ?_⟩
    refine (pgs_cons h1 ih hs).run pins s σ H vs us Q I r ?_
    cases vs with
    | nil => simp at e
    | cons v vs => exact ⟨v, vs, rfl, by simpa using e, q⟩
def setO : List O → List Nat → Rho → Rho
  | o :: os, i :: is, ρ => setO os is (ρ.set i (some o))
  | _, _, ρ => ρ
theorem set_comm {α : Type} : ∀ (os : List α) (is : List Nat) (f : List α → List Nat → List (Option α) → List (Option α)) (ρ : List (Option α)) (i : Nat) (o : Option α), (∀ o os i is ρ, f (o :: os) (i :: is) ρ = f os is (ρ.set i (some o))) → (∀ ρ, f [] [] ρ = ρ) → os.length = is.length → i ∉ is → f os is (ρ.set i o) = (f os is ρ).set i o
  | [], [], f, ρ, i, o, _, h0, _, _ => by rw [h0, h0]
  | [], _ :: _, _, _, _, _, _, _, e, _ => by simp at e
  | _ :: _, [], _, _, _, _, _, _, e, _ => by simp at e
  | x :: os, j :: is, f, ρ, i, o, hc, h0, e, hn => by
    rw [hc, hc, List.set_comm _ _ (by intro z; subst z; exact hn (by simp))]
    exact set_comm os is f _ i o hc h0 (by simpa using e) (fun z => hn (by simp [z]))
theorem SRep.stores {K : PySem.W.Frag} {G H : Hp} : ∀ (is : List Nat) (os : List O) (vs : List V) (σ : St) (ρ : Rho) (L : Lab), vs.length = os.length → os.length = is.length → is.Nodup → (∀ i ∈ is, i < ρ.length) → σ.length = ρ.length → SRep K cl (σ ++ vs.map some) H G L (ρ ++ os.map some) →
    ∃ L', SRep K cl (gSets vs is σ) H G L' (setO os is ρ) ∧ Frame H G L H G L'
  | [], [], [], σ, ρ, L, _, _, _, _, _, h => ⟨L, by simpa [gSets, setO] using h, Frame.refl⟩
  | [], o :: os, _, _, _, _, _, e, _, _, _, _ => by simp at e
  | [], [], v :: vs, _, _, _, e, _, _, _, _, _ => by simp at e
  | i :: is, [], _, _, _, _, _, e, _, _, _, _ => by simp at e
  | i :: is, o :: os, [], _, _, _, e, _, _, _, _, _ => by simp at e
  | i :: is, o :: os, v :: vs, σ, ρ, L, e1, e2, nd, hi, hl, h => by
    -- the others first, then this one
    have h2 : SRep K cl ((σ ++ [some v]) ++ vs.map some) H G L ((ρ ++ [some o]) ++ os.map some) := by simpa using h
    obtain ⟨L1, s1, f1⟩ := SRep.stores is os vs (σ ++ [some v]) (ρ ++ [some o]) L (by simpa using e1) (by simpa using e2) (List.nodup_cons.mp nd).2 (fun j hj => by have := hi j (by simp [hj]); simp; omega) (by simp [hl]) h2
    have app : ∀ {α : Type} (f : List α → List Nat → List (Option α) → List (Option α)), (∀ o os i is ρ, f (o :: os) (i :: is) ρ = f os is (ρ.set i (some o))) → (∀ ρ, f [] [] ρ = ρ) → ∀ (os : List α) (is : List Nat) (ρ : List (Option α)) (x : Option α), os.length = is.length → (∀ i ∈ is, i < ρ.length) → f os is (ρ ++ [x]) = f os is ρ ++ [x] := by
      intro α f hc h0 os
      induction os with
      | nil => intro is ρ x e _; cases is with | nil => rw [h0, h0] | cons => simp at e
      | cons y os ih =>
        intro is ρ x e hh
        cases is with
        | nil => simp at e
        | cons j is =>
          rw [hc, hc, List.set_append_left _ _ (hh j (by simp))]
          exact ih is _ x (by simpa using e) (fun k hk => by simpa using hh k (by simp [hk]))
    have lens : ∀ {α : Type} (f : List α → List Nat → List (Option α) → List (Option α)), (∀ o os i is ρ, f (o :: os) (i :: is) ρ = f os is (ρ.set i (some o))) → (∀ ρ, f [] [] ρ = ρ) → ∀ (os : List α) (is : List Nat) (ρ : List (Option α)), os.length = is.length → (f os is ρ).length = ρ.length := by
      intro α f hc h0 os
      induction os with
      | nil => intro is ρ e; cases is with | nil => rw [h0] | cons => simp at e
      | cons y os ih =>
        intro is ρ e
        cases is with
        | nil => simp at e
        | cons j is => rw [hc, ih is _ (by simpa using e)]; simp
    have cV : ∀ (o : V) os i is ρ, gSets (o :: os) (i :: is) ρ = gSets os is (ρ.set i (some o)) := fun _ _ _ _ _ => rfl
    have cO : ∀ (o : O) os i is ρ, setO (o :: os) (i :: is) ρ = setO os is (ρ.set i (some o)) := fun _ _ _ _ _ => rfl
    have zV : ∀ ρ, gSets [] [] ρ = ρ := fun _ => rfl
    have zO : ∀ ρ, setO [] [] ρ = ρ := fun _ => rfl
    have l1 : vs.length = is.length := by simp at e1 e2; omega
    have l2 : os.length = is.length := by simpa using e2
    rw [app gSets cV zV vs is σ (some v) l1 (fun j hj => by have := hi j (by simp [hj]); omega), app setO cO zO os is ρ (some o) l2 (fun j hj => hi j (by simp [hj]))] at s1
    have hii : i < (setO os is ρ).length := by rw [lens setO cO zO os is ρ l2]; exact hi i (by simp)
    obtain ⟨L2, s2, f2⟩ := s1.store hii
    have hn := (List.nodup_cons.mp nd).1
    refine ⟨L2, ?_, f1.trans f2⟩
    rw [cV, cO, set_comm vs is gSets σ i (some v) cV zV l1 hn, set_comm os is setO ρ i (some o) cO zO l2 hn]
    exact s2
def allLt (is : List Nat) (n : Nat) : Bool := is.all fun i => decide (i < n)
def nodupN : List Nat → Bool
  | [] => true
  | i :: is => !is.contains i && nodupN is
theorem nodupN_ok : ∀ {is : List Nat}, nodupN is = true → is.Nodup
  | [], _ => .nil
  | i :: is, h => by
    simp only [nodupN, Bool.and_eq_true, Bool.not_eq_true'] at h
    exact List.nodup_cons.mpr ⟨by simpa using h.1, nodupN_ok h.2⟩
theorem gSets_out : ∀ (vs : List V) (is : List Nat) (σ : St) (j : Nat), j ∉ is → (gSets vs is σ)[j]? = σ[j]?
  | [], _, _, _, _ => by unfold gSets; rfl
  | _ :: _, [], _, _, _ => by unfold gSets; rfl
  | v :: vs, i :: is, σ, j, h => by
    show (gSets vs is (σ.set i (some v)))[j]? = _
    rw [gSets_out vs is _ j (fun z => h (by simp [z])), List.getElem?_set_ne (fun z => h (by simp [z]))]
/-- x, y = e, the parts owned -/
def sUnpO (is : List Nat) (g : MO) : MS := fun ρ => match g ρ with
  | some (.tup os, ρ1) => (match decide (os.length = is.length) && allLt is ρ1.length && nodupN is with
    | true => some (.nx, setO os is ρ1)
    | false => none)
  | _ => none
theorem ss_unpO {is : List Nat} {g : MO} {k : Nat} (he : SO X cl e g) (ht : Tgs X es is) (hp : ∀ i ∈ is, i ∉ pr := by decide) (hc : X.calm = true := by rfl) (hn : (assignEach es X.env).length = is.length := by rfl) (hst : (assignEach es X.env).findIdx? (·.1) = none := by rfl)
    (hs : swapsWithSole [.Tuple es k pos'] e pos.line X.env = pure false := by rfl) (hw : swappedStores [.Tuple es k pos'] e X.env = pure none := by rfl) (h1 : (assignEach [.Tuple es k pos'] X.env).map (·.2) = [assign (.Tuple es k pos') X.env] := by rfl) :
    SS X cl pr (.Assign [.Tuple es k pos'] e pos) (sUnpO is g) := PS.weak (ps_asg he (pg_tup hc (tgs_ok ht) hn hst) hs hw h1) fun D σ H ⟨G, L, ρ, fl, ρ', hs, hg, q⟩ => by
  unfold sUnpO at hg
  split at hg
  · rename_i os ρ1 e1
    split at hg
    · rename_i z
      cases hg
      obtain ⟨z, z3⟩ := Bool.and_eq_true_iff.mp z
      obtain ⟨z1, z2⟩ := Bool.and_eq_true_iff.mp z
      have z1 := of_decide_eq_true z1
      have z2 : ∀ i ∈ is, i < ρ1.length := fun i hi => of_decide_eq_true (List.all_eq_true.mp z2 i hi)
      refine ⟨G, L, ρ, _, ρ1, hs, e1, fun v H1 G1 L1 s1 f1 => ?_⟩
      have hl : σ.length = ρ1.length := by simpa using s1.len
      obtain ⟨p, vs, rfl, t, n1, L2, s2, f2⟩ := s1.explode
      obtain ⟨L3, s3, f3⟩ := SRep.stores is os vs σ ρ1 L2 n1 z1 (nodupN_ok z3) z2 hl s2
      exact ⟨p, vs, rfl, (s1.le.tup t).seq, by omega, by omega, q _ H1 G1 L3 s3 ((f1.trans f2).trans f3) fun j hj => gSets_out vs is σ j fun z => hp j z hj⟩
    · cases hg
  · cases hg
end
end PI
set_option Elab.async false
set_option linter.all false
set_option maxRecDepth 100000
set_option maxHeartbeats 1000000
set_option autoImplicit false
/-! PI27: more rules for plain laws. -/
namespace PI
open PySem PySem.Spec L2
theorem frzs_fz : ∀ ds : List D, O.frzs (ds.map .fz) = ds
  | [] => rfl
  | d :: ds => by simp [O.frzs, O.frz, frzs_fz ds]
theorem frz_lst (ds : List D) : (O.lst (ds.map .fz)).frz = .lst ds := by simp [O.frz, frzs_fz]
theorem ev_aCons {g : MO} {f : MA} {ρ ρ1 ρ2 ω : Rho} {o : O} (e : g ρ = some (o, ρ1)) (e2 : f ρ1 = some (ω, ρ2)) : aCons g f ρ = some (some o :: ω, ρ2) := by
  unfold aCons; rw [e]; dsimp only; rw [e2]
theorem ev_aLend {i : Nat} {f : MA} {ρ ρ2 ω : Rho} {o : O} (e : ρ[i]? = some (some o)) (e2 : f ρ = some (ω, ρ2)) : aLend i f ρ = some (none :: ω, ρ2) := by
  unfold aLend; rw [e]; dsimp only; rw [e2]
theorem ev_extend {i : Nat} {g : MD} {ρ ρ1 : Rho} {d : D} {ds : List D} {os0 os : List O} (e0 : ρ[i]? = some (some (.lst os0))) (e : g ρ = some (d, ρ1)) (ed : itemsD d = some ds) (e1 : ρ1[i]? = some (some (.lst os))) (hl : os.length + ds.length ≤ sizeLine) :
    sExtend i g ρ = some (.nx, ρ1.set i (some (.lst (os ++ ds.map .fz)))) := by
  unfold sExtend; rw [e0]; dsimp only; rw [e]; dsimp only; rw [ed, e1]; dsimp only; rw [decide_eq_true hl]
theorem ev_aug {i : Nat} {g : MD} {ρ ρ1 : Rho} {x : D} {r : Option (Fl × Rho)} (e : sAugAdd i g ρ = r) : sAugAdd i g ρ = r := e
theorem ev_call2 {fn : Fn} {ks : Lends} {f : MA} {ρ ω ρ1 ρ2 : Rho} {as : List O} {r : O} {as' : Rho} (e : f ρ = some (ω, ρ1)) (eg : gather ks ω ρ1 = some as) (ef : fn as = some (r, as')) (hl : as'.length = as.length) (hs : setL ks as' ρ1 = ρ2) : mCall fn ks f ρ = some (r, ρ2) := by
  rw [← hs]; exact ev_call e eg ef hl
theorem ev_asg2 {i : Nat} {g : MO} {ρ ρ1 ρ2 : Rho} {o : O} (e : g ρ = some (o, ρ1)) (hi : decide (i < ρ1.length) = true) (hs : ρ1.set i (some o) = ρ2) : sAsg i g ρ = some (.nx, ρ2) := by
  rw [← hs]; exact ev_asg e hi
theorem ev_append2 {i : Nat} {g : MO} {ρ ρ1 ρ2 : Rho} {os0 os : List O} {o : O} (e0 : ρ[i]? = some (some (.lst os0))) (e : g ρ = some (o, ρ1)) (e1 : ρ1[i]? = some (some (.lst os))) (hl : os.length < sizeLine) (hs : ρ1.set i (some (.lst (os ++ [o]))) = ρ2) : sAppend i g ρ = some (.nx, ρ2) := by
  rw [← hs]; exact ev_append e0 e e1 hl
theorem ev_extend2 {i : Nat} {g : MD} {ρ ρ1 ρ2 : Rho} {d : D} {ds : List D} {os0 os : List O} (e0 : ρ[i]? = some (some (.lst os0))) (e : g ρ = some (d, ρ1)) (ed : itemsD d = some ds) (e1 : ρ1[i]? = some (some (.lst os))) (hl : os.length + ds.length ≤ sizeLine) (hs : ρ1.set i (some (.lst (os ++ ds.map .fz))) = ρ2) :
    sExtend i g ρ = some (.nx, ρ2) := by
  rw [← hs]; exact ev_extend e0 e ed e1 hl
theorem ev_aug2 {i : Nat} {g : MD} {ρ ρ1 ρ2 : Rho} {a b : Int} (e0 : ρ[i]? = some (some (.fz (.int a)))) (e : g ρ = some (.int b, ρ1)) (hi : decide (i < ρ1.length) = true) (hs : ρ1.set i (some (.fz (.int (a + b)))) = ρ2) : sAugAdd i g ρ = some (.nx, ρ2) := by
  unfold sAugAdd; rw [e0]; dsimp only; rw [e]; dsimp only; rw [hi, ← hs]
theorem ev_lstD {f : MDs} {ρ ρ1 : Rho} {ds : List D} (e : oLst f ρ = some (.lst (ds.map .fz), ρ1)) : mFrz (oLst f) ρ = some (.lst ds, ρ1) := ev_frz e (frz_lst ds)
theorem len_app (a b : Str) : (a ++ b).length = a.length + b.length := by
  show (a.cps ++ b.cps).size = _
  simp [Str.length]
theorem add_str {a b : Str} (h : a.length + b.length < 100000) : dAddG (.str a) (.str b) = some (.str (a ++ b)) := by
  unfold dAddG
  dsimp only
  rw [decide_eq_true (Nat.le_trans (Nat.le_of_lt h) (by decide))]
theorem add_tup {a b : List D} (h : a.length + b.length < 100000) : dAddG (.tup a) (.tup b) = some (.tup (a ++ b)) := by
  unfold dAddG
  dsimp only
  rw [decide_eq_true (Nat.le_trans (Nat.le_of_lt h) (by decide))]
theorem add_lst {a b : List D} (h : a.length + b.length < 100000) : dAddG (.lst a) (.lst b) = some (.lst (a ++ b)) := by
  unfold dAddG
  dsimp only
  rw [decide_eq_true (Nat.le_trans (Nat.le_of_lt h) (by decide))]
theorem small {n : Nat} (h : n < 1000) : n ≤ sizeLine := Nat.le_trans (Nat.le_of_lt h) (by decide)
theorem mul_ok {i j : Int} (h : -(2 ^ 64) < i ∧ i < 2 ^ 64) : dMulG (.int i) (.int j) = some (.int (i * j)) := by
  show (match decide (-(2 ^ 64) < i ∧ i < 2 ^ 64 ∨ -(2 ^ 64) < j ∧ j < 2 ^ 64) with
    | true => some (D.int (i * j))
    | false => none) = _
  rw [decide_eq_true (.inl h)]
theorem ev_rng {g : MD} {ρ ρ1 : Rho} {j : Int} {ds : List D} (e : g ρ = some (.int j, ρ1)) (h : inRange j = true) (hn : rangeD 0 j.toNat = ds) : iRange1 g ρ = some (ds, ρ1) := by
  unfold iRange1; rw [e]; dsimp only; rw [h]; dsimp only; rw [hn]
theorem inRange_tab : (List.range 1000).all (fun n => inRange (n : Int)) = true := by decide +kernel
theorem inRange_ok {n : Nat} (h : n < 1000) : inRange (n : Int) = true := List.all_eq_true.mp inRange_tab n (List.mem_range.mpr h)
/-- a comprehension that takes each item to one -/
theorem comp_map {α : Type} {vs : List Nat} {b : MG} {g : MD} {ρ : Rho} (A : α → D) (F : α → D) : ∀ (xs : List α), (∀ x ∈ xs, ∃ ρ1 ρ3, b (A x) (wipeR ρ vs) = some ρ1 ∧ g ρ1 = some (F x, ρ3) ∧ wipeR ρ3 vs = wipeR ρ vs) →
    compLoop vs b bYes g (xs.map A) (wipeR ρ vs) = some (xs.map F, wipeR ρ vs)
  | [], _ => rfl
  | x :: xs, h => by
    obtain ⟨ρ1, ρ3, e1, e2, e3⟩ := h x (by simp)
    exact ev_comp1 e1 rfl e2 (by rw [e3]; exact comp_map A F xs fun y hy => h y (by simp [hy]))
/-- the whole of it, frozen -/
theorem comp_all {α : Type} {gi : MI} {vs : List Nat} {b : MG} {g : MD} {ρ ρ1 : Rho} (A : α → D) (F : α → D) (xs : List α) (e : gi ρ = some (xs.map A, ρ1)) (hz : fzAt ρ1 vs = true) (hl : xs.length < 1000)
    (h : ∀ x ∈ xs, ∃ ρ2 ρ3, b (A x) (wipeR ρ1 vs) = some ρ2 ∧ g ρ2 = some (F x, ρ3) ∧ wipeR ρ3 vs = wipeR ρ1 vs) (hr : restR ρ1 vs (wipeR ρ1 vs) = ρ1) : oComp gi vs b bYes g ρ = some (.lst ((xs.map F).map .fz), ρ1) := by
  have := ev_comp (vs := vs) (t := bYes) (g := g) (b := b) e (by rw [hz, Bool.true_and]; exact decide_eq_true (small (by simpa using hl))) (comp_map A F xs h)
  rw [hr] at this
  exact this
end PI
set_option Elab.async false
set_option linter.all false
set_option maxRecDepth 100000
set_option maxHeartbeats 4000000
set_option autoImplicit false
/-! FM1: linear forms as plain lists: sums by name, the written order, images. -/
namespace Hd
open PySem PySem.Spec L2 PI
abbrev Prs := List (Str × Int)
abbrev Fm := Int × Prs
def pD (p : Str × Int) : D := .tup [.str p.1, .int p.2]
def fD (f : Fm) : D := .tup [.int f.1, .tup (f.2.map pD)]
def hasN (m : Prs) (n : Str) : Bool := m.any fun p => decide (p.1 = n)
def addP (m : Prs) (n : Str) (k : Int) : Prs := if hasN m n then m.map (fun p => if p.1 = n then (p.1, p.2 + k) else p) else m ++ [(n, k)]
def sumsG (m : Prs) (ps : Prs) : Prs := ps.foldl (fun m p => addP m p.1 p.2) m
abbrev sumsP (ps : Prs) : Prs := sumsG [] ps
def valP : Prs → Str → Int
  | [], _ => 0
  | p :: m, n => if p.1 = n then p.2 else valP m n
def keepP (m : Prs) : List Str → Prs
  | [] => []
  | n :: ns => if valP m n = 0 then keepP m ns else (n, valP m n) :: keepP m ns
def nf (ps : Prs) : Prs := keepP (sumsP ps) (srtS ((sumsP ps).map (·.1)))
abbrev ltS (x y : Str) : Prop := x.cps.toList < y.cps.toList
def okP (ps : Prs) : Prop := (ps.map (·.1)).Pairwise ltS ∧ ∀ p ∈ ps, p.2 ≠ 0
theorem ltS_ne {x y : Str} (h : ltS x y) : x ≠ y := fun e => by subst e; exact List.lt_irrefl _ h
theorem ltS_le {x y : Str} (h : ltS x y) : leS x y := fun z => List.lt_irrefl _ (List.lt_trans h z)
theorem ltS_of {x y : Str} (h : leS x y) (n : x ≠ y) : ltS x y := by
  apply Classical.byContradiction
  intro z
  exact n (leS_anti h z)
theorem hasN_iff {m : Prs} {n : Str} : hasN m n = true ↔ n ∈ m.map (·.1) := by
  unfold hasN
  simp [List.any_eq_true]
theorem add_keys (m : Prs) (n : Str) (k : Int) : (addP m n k).map (·.1) = if n ∈ m.map (·.1) then m.map (·.1) else m.map (·.1) ++ [n] := by
  unfold addP
  by_cases h : hasN m n = true
  · rw [if_pos h, if_pos (hasN_iff.mp h), List.map_map]
    congr 1
    funext p
    simp only [Function.comp]
    split <;> rfl
  · rw [if_neg h, if_neg (fun z => h (hasN_iff.mpr z))]
    simp
theorem add_nodup {m : Prs} (n : Str) (k : Int) (h : (m.map (·.1)).Nodup) : ((addP m n k).map (·.1)).Nodup := by
  rw [add_keys]
  split
  · exact h
  · rename_i z
    rw [List.nodup_append]
    exact ⟨h, by simp, fun a ha b hb e => by simp at hb; subst hb; subst e; exact z ha⟩
theorem add_len (m : Prs) (n : Str) (k : Int) : (addP m n k).length ≤ m.length + 1 := by
  unfold addP
  split <;> simp
theorem sums_nodup : ∀ (ps m : Prs), (m.map (·.1)).Nodup → ((sumsG m ps).map (·.1)).Nodup
  | [], m, h => h
  | p :: ps, m, h => sums_nodup ps _ (add_nodup p.1 p.2 h)
theorem sums_len : ∀ (ps m : Prs), (sumsG m ps).length ≤ m.length + ps.length
  | [], m => by simp [sumsG]
  | p :: ps, m => by
    have := sums_len ps (addP m p.1 p.2)
    have := add_len m p.1 p.2
    show (sumsG (addP m p.1 p.2) ps).length ≤ _
    simp
    omega
theorem sums_names : ∀ (ps m : Prs) (n : Str), n ∈ (sumsG m ps).map (·.1) → n ∈ m.map (·.1) ∨ n ∈ ps.map (·.1)
  | [], m, n, h => .inl h
  | p :: ps, m, n, h => by
    rcases sums_names ps _ n h with z | z
    · rw [add_keys] at z
      split at z
      · exact .inl z
      · rw [List.mem_append] at z
        rcases z with z | z
        · exact .inl z
        · simp at z
          subst z
          exact .inr (by simp)
    · exact .inr (by simp at z ⊢; exact .inr z)
theorem sums_id : ∀ (ps m : Prs), ((m ++ ps).map (·.1)).Nodup → sumsG m ps = m ++ ps
  | [], m, _ => by simp [sumsG]
  | p :: ps, m, h => by
    have e : addP m p.1 p.2 = m ++ [p] := by
      unfold addP
      rw [if_neg]
      intro z
      have z := hasN_iff.mp z
      rw [List.map_append, List.nodup_append] at h
      exact h.2.2 p.1 z p.1 (by simp) rfl
    show sumsG (addP m p.1 p.2) ps = _
    rw [e, sums_id ps (m ++ [p]) (by simpa using h)]
    simp
theorem keep_names (m : Prs) : ∀ ns : List Str, (keepP m ns).map (·.1) |>.Sublist ns
  | [] => .slnil
  | n :: ns => by
    unfold keepP
    split
    · exact (keep_names m ns).cons n
    · exact (keep_names m ns).cons₂ n
theorem keep_nz (m : Prs) : ∀ (ns : List Str) (p : Str × Int), p ∈ keepP m ns → p.2 ≠ 0
  | [], p, h => by simp [keepP] at h
  | n :: ns, p, h => by
    unfold keepP at h
    split at h
    · exact keep_nz m ns p h
    · rename_i z
      rcases List.mem_cons.mp h with e | e
      · subst e; exact z
      · exact keep_nz m ns p e
theorem srt_lt {ns : List Str} (h : ns.Nodup) : (srtS ns).Pairwise ltS := by
  have h2 : (srtS ns).Nodup := (srtS_perm ns).nodup_iff.mpr h
  have h1 := srtS_pair ns
  exact (List.Pairwise.and h1 h2).imp fun ⟨a, b⟩ => ltS_of a b
theorem srt_id : ∀ {ns : List Str}, ns.Pairwise ltS → srtS ns = ns
  | [], _ => rfl
  | n :: ns, h => by
    have h' := List.pairwise_cons.mp h
    have p1 : (srtS (n :: ns)).Perm (n :: ns) := srtS_perm _
    exact p1.eq_of_pairwise (fun a b _ _ x y => leS_anti x y) (srtS_pair _) (h.imp ltS_le)
theorem nf_ok (ps : Prs) : okP (nf ps) := by
  refine ⟨?_, keep_nz _ _⟩
  exact (srt_lt (sums_nodup ps [] (by simp))).sublist (keep_names _ _)
theorem nf_names (ps : Prs) : ∀ n ∈ (nf ps).map (·.1), n ∈ ps.map (·.1) := fun n h => by
  have h1 := (keep_names _ _).subset h
  have h2 := (srtS_perm _).mem_iff.mp h1
  rcases sums_names ps [] n h2 with z | z
  · simp at z
  · exact z
theorem val_mem : ∀ {m : Prs} {p : Str × Int}, (m.map (·.1)).Nodup → p ∈ m → valP m p.1 = p.2
  | [], _, _, h => by simp at h
  | q :: m, p, hn, h => by
    simp only [List.map_cons, List.nodup_cons] at hn
    unfold valP
    rcases List.mem_cons.mp h with e | e
    · subst e; rw [if_pos rfl]
    · rw [if_neg (fun z => hn.1 (by rw [z]; exact List.mem_map_of_mem e))]
      exact val_mem hn.2 e
theorem keep_id {m : Prs} (hn : (m.map (·.1)).Nodup) : ∀ ps : Prs, (∀ p ∈ ps, p ∈ m ∧ p.2 ≠ 0) → keepP m (ps.map (·.1)) = ps
  | [], _ => rfl
  | p :: ps, h => by
    obtain ⟨h1, h2⟩ := h p (by simp)
    have e := val_mem hn h1
    simp only [List.map_cons, keepP]
    rw [e, if_neg h2, keep_id hn ps fun q hq => h q (by simp [hq])]
theorem okP_nodup {ps : Prs} (h : okP ps) : (ps.map (·.1)).Nodup := h.1.imp ltS_ne
theorem nf_id {ps : Prs} (h : okP ps) : nf ps = ps := by
  unfold nf
  have hn := okP_nodup h
  have e : sumsP ps = ps := by
    show sumsG [] ps = ps
    rw [sums_id ps [] (by simpa using hn)]
    rfl
  rw [e, srt_id h.1]
  exact keep_id hn ps fun p hp => ⟨hp, h.2 p hp⟩
theorem nf_len (ps : Prs) : (nf ps).length ≤ ps.length := by
  have h1 := (keep_names (sumsP ps) (srtS ((sumsP ps).map (·.1)))).length_le
  have h2 := (srtS_perm ((sumsP ps).map (·.1))).length_eq
  have h3 : (sumsP ps).length ≤ 0 + ps.length := sums_len ps []
  simp at h1 h2 h3
  unfold nf
  omega
/-- the numbers stay small -/
def bndP (B : Int) (ps : Prs) : Prop := ∀ p ∈ ps, -B ≤ p.2 ∧ p.2 ≤ B
/-- a prefix -/
def markP (mk : Str) (ps : Prs) : Prs := ps.map fun p => (mk ++ p.1, p.2)
theorem app_list (a b : Str) : (a ++ b).cps.toList = a.cps.toList ++ b.cps.toList := by
  show (a.cps ++ b.cps).toList = _
  simp
theorem app_lt {mk a b : Str} (h : ltS a b) : ltS (mk ++ a) (mk ++ b) := by
  unfold ltS
  rw [app_list, app_list]
  exact List.append_left_lt h
theorem mark_ok {mk : Str} {ps : Prs} (h : okP ps) : okP (markP mk ps) := by
  refine ⟨?_, fun p hp => ?_⟩
  · unfold markP
    rw [List.map_map]
    have e : ((fun x : Str × Int => x.1) ∘ fun p : Str × Int => (mk ++ p.1, p.2)) = (fun n => mk ++ n) ∘ (fun x : Str × Int => x.1) := rfl
    rw [e, ← List.map_map, List.pairwise_map]
    exact h.1.imp app_lt
  · obtain ⟨q, hq, rfl⟩ := List.mem_map.mp hp
    exact h.2 q hq
end Hd
set_option Elab.async false
set_option linter.all false
set_option maxRecDepth 100000
set_option maxHeartbeats 4000000
set_option autoImplicit false
namespace Hd
open PySem PySem.Spec PyProof.Rows L2
def top (i : Nat) : Stmt := PySem.Challenge.pw_longpaid_k36_claims_of_converters.main.body.getD i (.Pass ⟨0, 0, 0, 0⟩)
def inCls (i j : Nat) : Stmt := match top i with
  | .ClassDef (body := b) .. => b.getD j (.Pass ⟨0, 0, 0, 0⟩)
  | s => s
abbrev s_form : Stmt := top 3
def d_form : He.DefD := ⟨("form", none), "form", "form", defArgs s_form, defBody s_form, defScope s_form, [], []⟩
abbrev s_variable : Stmt := top 4
def d_variable : He.DefD := ⟨("variable", none), "variable", "variable", defArgs s_variable, defBody s_variable, defScope s_variable, [], []⟩
abbrev s_plus : Stmt := top 5
def d_plus : He.DefD := ⟨("plus", none), "plus", "plus", defArgs s_plus, defBody s_plus, defScope s_plus, [], []⟩
abbrev s_times : Stmt := top 6
def d_times : He.DefD := ⟨("times", none), "times", "times", defArgs s_times, defBody s_times, defScope s_times, [], []⟩
abbrev s_minus : Stmt := top 7
def d_minus : He.DefD := ⟨("minus", none), "minus", "minus", defArgs s_minus, defBody s_minus, defScope s_minus, [], []⟩
abbrev s_image : Stmt := top 8
def d_image : He.DefD := ⟨("image", none), "image", "image", defArgs s_image, defBody s_image, defScope s_image, [], []⟩
abbrev s_is_integer : Stmt := top 9
def d_is_integer : He.DefD := ⟨("is_integer", none), "is_integer", "is_integer", defArgs s_is_integer, defBody s_is_integer, defScope s_is_integer, [], []⟩
abbrev s_is_count : Stmt := top 10
def d_is_count : He.DefD := ⟨("is_count", none), "is_count", "is_count", defArgs s_is_count, defBody s_is_count, defScope s_is_count, [], []⟩
abbrev s_is_tuple : Stmt := top 11
def d_is_tuple : He.DefD := ⟨("is_tuple", none), "is_tuple", "is_tuple", defArgs s_is_tuple, defBody s_is_tuple, defScope s_is_tuple, [], []⟩
abbrev s_statements_in : Stmt := top 13
def d_statements_in : He.DefD := ⟨("statements_in", none), "statements_in", "statements_in", defArgs s_statements_in, defBody s_statements_in, defScope s_statements_in, [], []⟩
abbrev s_proc_named : Stmt := top 14
def d_proc_named : He.DefD := ⟨("proc_named", none), "proc_named", "proc_named", defArgs s_proc_named, defBody s_proc_named, defScope s_proc_named, [], []⟩
abbrev s_assigned_in : Stmt := top 15
def d_assigned_in : He.DefD := ⟨("assigned_in", none), "assigned_in", "assigned_in", defArgs s_assigned_in, defBody s_assigned_in, defScope s_assigned_in, [], []⟩
abbrev s_passed_on : Stmt := top 16
def d_passed_on : He.DefD := ⟨("passed_on", none), "passed_on", "passed_on", defArgs s_passed_on, defBody s_passed_on, defScope s_passed_on, [], []⟩
abbrev s_moving_table : Stmt := top 17
def d_moving_table : He.DefD := ⟨("moving_table", none), "moving_table", "moving_table", defArgs s_moving_table, defBody s_moving_table, defScope s_moving_table, [], []⟩
abbrev s_variable_of : Stmt := top 18
def d_variable_of : He.DefD := ⟨("variable_of", none), "variable_of", "variable_of", defArgs s_variable_of, defBody s_variable_of, defScope s_variable_of, [], []⟩
abbrev s_moving_items : Stmt := top 19
def d_moving_items : He.DefD := ⟨("moving_items", none), "moving_items", "moving_items", defArgs s_moving_items, defBody s_moving_items, defScope s_moving_items, [], []⟩
abbrev s_inputs_of_proc : Stmt := top 20
def d_inputs_of_proc : He.DefD := ⟨("inputs_of_proc", none), "inputs_of_proc", "inputs_of_proc", defArgs s_inputs_of_proc, defBody s_inputs_of_proc, defScope s_inputs_of_proc, [], []⟩
abbrev s_outcomes_of_proc : Stmt := top 21
def d_outcomes_of_proc : He.DefD := ⟨("outcomes_of_proc", none), "outcomes_of_proc", "outcomes_of_proc", defArgs s_outcomes_of_proc, defBody s_outcomes_of_proc, defScope s_outcomes_of_proc, [], []⟩
abbrev s_inputs_of : Stmt := top 22
def d_inputs_of : He.DefD := ⟨("inputs_of", none), "inputs_of", "inputs_of", defArgs s_inputs_of, defBody s_inputs_of, defScope s_inputs_of, [], []⟩
abbrev s_outcomes_of : Stmt := top 23
def d_outcomes_of : He.DefD := ⟨("outcomes_of", none), "outcomes_of", "outcomes_of", defArgs s_outcomes_of, defBody s_outcomes_of, defScope s_outcomes_of, [], []⟩
abbrev s_sided : Stmt := top 27
def d_sided : He.DefD := ⟨("sided", none), "sided", "sided", defArgs s_sided, defBody s_sided, defScope s_sided, [], []⟩
abbrev s_marked : Stmt := top 28
def d_marked : He.DefD := ⟨("marked", none), "marked", "marked", defArgs s_marked, defBody s_marked, defScope s_marked, [], []⟩
abbrev s_both_ways : Stmt := top 30
def d_both_ways : He.DefD := ⟨("both_ways", none), "both_ways", "both_ways", defArgs s_both_ways, defBody s_both_ways, defScope s_both_ways, [], []⟩
abbrev s_size_of : Stmt := top 32
def d_size_of : He.DefD := ⟨("size_of", none), "size_of", "size_of", defArgs s_size_of, defBody s_size_of, defScope s_size_of, [], []⟩
abbrev s_state_inputs : Stmt := top 33
def d_state_inputs : He.DefD := ⟨("state_inputs", none), "state_inputs", "state_inputs", defArgs s_state_inputs, defBody s_state_inputs, defScope s_state_inputs, [], []⟩
abbrev s_state_names : Stmt := top 34
def d_state_names : He.DefD := ⟨("state_names", none), "state_names", "state_names", defArgs s_state_names, defBody s_state_names, defScope s_state_names, [], []⟩
abbrev s_ask_name : Stmt := top 37
def d_ask_name : He.DefD := ⟨("ask_name", none), "ask_name", "ask_name", defArgs s_ask_name, defBody s_ask_name, defScope s_ask_name, [], []⟩
abbrev s_is_converter : Stmt := top 40
def d_is_converter : He.DefD := ⟨("is_converter", none), "is_converter", "is_converter", defArgs s_is_converter, defBody s_is_converter, defScope s_is_converter, [], []⟩
abbrev s_right_pairs : Stmt := top 41
def d_right_pairs : He.DefD := ⟨("right_pairs", none), "right_pairs", "right_pairs", defArgs s_right_pairs, defBody s_right_pairs, defScope s_right_pairs, [], []⟩
abbrev s_equal_states : Stmt := top 42
def d_equal_states : He.DefD := ⟨("equal_states", none), "equal_states", "equal_states", defArgs s_equal_states, defBody s_equal_states, defScope s_equal_states, [], []⟩
abbrev s_exchange_claim : Stmt := top 43
def d_exchange_claim : He.DefD := ⟨("exchange_claim", none), "exchange_claim", "exchange_claim", defArgs s_exchange_claim, defBody s_exchange_claim, defScope s_exchange_claim, [], []⟩
abbrev s_u_law_start : Stmt := top 45
def d_u_law_start : He.DefD := ⟨("_law_start", none), "_law_start", "_law_start", defArgs s_u_law_start, defBody s_u_law_start, defScope s_u_law_start, [], []⟩
abbrev s_u_law_draw : Stmt := top 46
def d_u_law_draw : He.DefD := ⟨("_law_draw", none), "_law_draw", "_law_draw", defArgs s_u_law_draw, defBody s_u_law_draw, defScope s_u_law_draw, [], []⟩
abbrev s_u_law_words : Stmt := top 47
def d_u_law_words : He.DefD := ⟨("_law_words", none), "_law_words", "_law_words", defArgs s_u_law_words, defBody s_u_law_words, defScope s_u_law_words, [], []⟩
abbrev s_u_law_is_int : Stmt := top 48
def d_u_law_is_int : He.DefD := ⟨("_law_is_int", none), "_law_is_int", "_law_is_int", defArgs s_u_law_is_int, defBody s_u_law_is_int, defScope s_u_law_is_int, [], []⟩
abbrev s_u_law_same : Stmt := top 49
def d_u_law_same : He.DefD := ⟨("_law_same", none), "_law_same", "_law_same", defArgs s_u_law_same, defBody s_u_law_same, defScope s_u_law_same, [], []⟩
abbrev s_u_law_form : Stmt := top 50
def d_u_law_form : He.DefD := ⟨("_law_form", none), "_law_form", "_law_form", defArgs s_u_law_form, defBody s_u_law_form, defScope s_u_law_form, [], []⟩
abbrev s_u_law_num : Stmt := top 51
def d_u_law_num : He.DefD := ⟨("_law_num", none), "_law_num", "_law_num", defArgs s_u_law_num, defBody s_u_law_num, defScope s_u_law_num, [], []⟩
abbrev s_u_law_add : Stmt := top 52
def d_u_law_add : He.DefD := ⟨("_law_add", none), "_law_add", "_law_add", defArgs s_u_law_add, defBody s_u_law_add, defScope s_u_law_add, [], []⟩
abbrev s_u_law_needs : Stmt := top 53
def d_u_law_needs : He.DefD := ⟨("_law_needs", none), "_law_needs", "_law_needs", defArgs s_u_law_needs, defBody s_u_law_needs, defScope s_u_law_needs, [], []⟩
abbrev s_u_law_side : Stmt := top 54
def d_u_law_side : He.DefD := ⟨("_law_side", none), "_law_side", "_law_side", defArgs s_u_law_side, defBody s_u_law_side, defScope s_u_law_side, [], []⟩
abbrev s_u_law_spec : Stmt := top 55
def d_u_law_spec : He.DefD := ⟨("_law_spec", none), "_law_spec", "_law_spec", defArgs s_u_law_spec, defBody s_u_law_spec, defScope s_u_law_spec, [], []⟩
abbrev s_u_law_two : Stmt := top 56
def d_u_law_two : He.DefD := ⟨("_law_two", none), "_law_two", "_law_two", defArgs s_u_law_two, defBody s_u_law_two, defScope s_u_law_two, [], []⟩
abbrev s_u_law_both_ways : Stmt := top 57
def d_u_law_both_ways : He.DefD := ⟨("_law_both_ways", none), "_law_both_ways", "_law_both_ways", defArgs s_u_law_both_ways, defBody s_u_law_both_ways, defScope s_u_law_both_ways, [], []⟩
abbrev s_u_law_converter : Stmt := top 58
def d_u_law_converter : He.DefD := ⟨("_law_converter", none), "_law_converter", "_law_converter", defArgs s_u_law_converter, defBody s_u_law_converter, defScope s_u_law_converter, [], []⟩
abbrev s_u_law_marked : Stmt := top 59
def d_u_law_marked : He.DefD := ⟨("_law_marked", none), "_law_marked", "_law_marked", defArgs s_u_law_marked, defBody s_u_law_marked, defScope s_u_law_marked, [], []⟩
abbrev s_u_law_ask : Stmt := top 60
def d_u_law_ask : He.DefD := ⟨("_law_ask", none), "_law_ask", "_law_ask", defArgs s_u_law_ask, defBody s_u_law_ask, defScope s_u_law_ask, [], []⟩
abbrev s_u_law_ask_form : Stmt := top 61
def d_u_law_ask_form : He.DefD := ⟨("_law_ask_form", none), "_law_ask_form", "_law_ask_form", defArgs s_u_law_ask_form, defBody s_u_law_ask_form, defScope s_u_law_ask_form, [], []⟩
abbrev s_u_law_some_form : Stmt := top 62
def d_u_law_some_form : He.DefD := ⟨("_law_some_form", none), "_law_some_form", "_law_some_form", defArgs s_u_law_some_form, defBody s_u_law_some_form, defScope s_u_law_some_form, [], []⟩
abbrev s_u_law_claim : Stmt := top 63
def d_u_law_claim : He.DefD := ⟨("_law_claim", none), "_law_claim", "_law_claim", defArgs s_u_law_claim, defBody s_u_law_claim, defScope s_u_law_claim, [], []⟩
abbrev s_u_law_faults : Stmt := top 64
def d_u_law_faults : He.DefD := ⟨("_law_faults", none), "_law_faults", "_law_faults", defArgs s_u_law_faults, defBody s_u_law_faults, defScope s_u_law_faults, [], []⟩
abbrev s_law : Stmt := top 65
def d_law : He.DefD := ⟨("law", none), "law", "law", defArgs s_law, defBody s_law, defScope s_law, [], []⟩
abbrev s_Pair_init : Stmt := inCls 36 0
def d_Pair_init : He.DefD := ⟨("Pair", some "__init__"), "__init__", "Pair.__init__", defArgs s_Pair_init, defBody s_Pair_init, defScope s_Pair_init, [], []⟩
abbrev s_Pair_deeds : Stmt := inCls 36 1
def d_Pair_deeds : He.DefD := ⟨("Pair", some "deeds"), "deeds", "Pair.deeds", defArgs s_Pair_deeds, defBody s_Pair_deeds, defScope s_Pair_deeds, [], []⟩
abbrev s_Pair_names : Stmt := inCls 36 2
def d_Pair_names : He.DefD := ⟨("Pair", some "names"), "names", "Pair.names", defArgs s_Pair_names, defBody s_Pair_names, defScope s_Pair_names, [], []⟩
abbrev s_Pair_state_arrays : Stmt := inCls 36 3
def d_Pair_state_arrays : He.DefD := ⟨("Pair", some "state_arrays"), "state_arrays", "Pair.state_arrays", defArgs s_Pair_state_arrays, defBody s_Pair_state_arrays, defScope s_Pair_state_arrays, [], []⟩
abbrev s_Pair_pairs_ahead : Stmt := inCls 36 4
def d_Pair_pairs_ahead : He.DefD := ⟨("Pair", some "pairs_ahead"), "pairs_ahead", "Pair.pairs_ahead", defArgs s_Pair_pairs_ahead, defBody s_Pair_pairs_ahead, defScope s_Pair_pairs_ahead, [], []⟩
abbrev s_Pair_pairs_behind : Stmt := inCls 36 5
def d_Pair_pairs_behind : He.DefD := ⟨("Pair", some "pairs_behind"), "pairs_behind", "Pair.pairs_behind", defArgs s_Pair_pairs_behind, defBody s_Pair_pairs_behind, defScope s_Pair_pairs_behind, [], []⟩
abbrev s_Pair_array_pairs : Stmt := inCls 36 6
def d_Pair_array_pairs : He.DefD := ⟨("Pair", some "array_pairs"), "array_pairs", "Pair.array_pairs", defArgs s_Pair_array_pairs, defBody s_Pair_array_pairs, defScope s_Pair_array_pairs, [], []⟩
abbrev s_Pair_invariants_ahead : Stmt := inCls 36 7
def d_Pair_invariants_ahead : He.DefD := ⟨("Pair", some "invariants_ahead"), "invariants_ahead", "Pair.invariants_ahead", defArgs s_Pair_invariants_ahead, defBody s_Pair_invariants_ahead, defScope s_Pair_invariants_ahead, [], []⟩
def fn : List He.DefD := [d_form, d_variable, d_plus, d_times, d_minus, d_image, d_is_integer, d_is_count, d_is_tuple, d_statements_in, d_proc_named, d_assigned_in, d_passed_on, d_moving_table, d_variable_of, d_moving_items, d_inputs_of_proc, d_outcomes_of_proc, d_inputs_of, d_outcomes_of, d_sided, d_marked, d_both_ways, d_size_of, d_state_inputs, d_state_names, d_ask_name, d_is_converter, d_right_pairs, d_equal_states, d_exchange_claim, d_u_law_start, d_u_law_draw, d_u_law_words, d_u_law_is_int, d_u_law_same, d_u_law_form, d_u_law_num, d_u_law_add, d_u_law_needs, d_u_law_side, d_u_law_spec, d_u_law_two, d_u_law_both_ways, d_u_law_converter, d_u_law_marked, d_u_law_ask, d_u_law_ask_form, d_u_law_some_form, d_u_law_claim, d_u_law_faults, d_law, d_Pair_init, d_Pair_deeds, d_Pair_names, d_Pair_state_arrays, d_Pair_pairs_ahead, d_Pair_pairs_behind, d_Pair_array_pairs, d_Pair_invariants_ahead]
def fa : List He.Fa := [.glo "form", .glo "variable", .glo "plus", .glo "times", .glo "minus", .glo "image", .glo "is_integer", .glo "is_count", .glo "is_tuple", .glo "statements_in", .glo "proc_named", .glo "assigned_in", .glo "passed_on", .glo "moving_table", .glo "variable_of", .glo "moving_items", .glo "inputs_of_proc", .glo "outcomes_of_proc", .glo "inputs_of", .glo "outcomes_of", .glo "sided", .glo "marked", .glo "both_ways", .glo "size_of", .glo "state_inputs", .glo "state_names", .glo "ask_name", .glo "is_converter", .glo "right_pairs", .glo "equal_states", .glo "exchange_claim", .glo "_law_start", .glo "_law_draw", .glo "_law_words", .glo "_law_is_int", .glo "_law_same", .glo "_law_form", .glo "_law_num", .glo "_law_add", .glo "_law_needs", .glo "_law_side", .glo "_law_spec", .glo "_law_two", .glo "_law_both_ways", .glo "_law_converter", .glo "_law_marked", .glo "_law_ask", .glo "_law_ask_form", .glo "_law_some_form", .glo "_law_claim", .glo "_law_faults", .glo "law", .free "len", .free "tuple", .free "list", .free "range", .free "zip", .free "sorted", .free "all", .free "abs", .free "int", .free "isinstance", .free "str", .free "bool", .free "set", .glo "Pair", .cls "Pair", .mkr "Pair", .meth "Pair" "deeds", .meth "Pair" "names", .meth "Pair" "state_arrays", .meth "Pair" "pairs_ahead", .meth "Pair" "pairs_behind", .meth "Pair" "array_pairs", .meth "Pair" "invariants_ahead", .noat "Pair" "cores", .noat "Pair" "invariants", .noat "Pair" "parts", .str "LEFT" "l.", .str "RIGHT" "r.", .str "NOTHING" "."]
abbrev R : PySem.W.OpenRow := PySem.W.OpenLaw.row PySem.Challenge.rw_longpaid_k36_claims_of_converters
abbrev hk : PySem.W.Hook := He.hookD 5 fa fn
def ob (s : PySem.W.SharedT) : He.AlD := He.obsDG 5 fa fn (HandSHeadRun.getT s)
theorem ob_eq (s : PySem.W.SharedT) : ob s = hk.obs s.abs := He.obsDG_eq (HandSHeadRun.getT_eq s)
def lo0 : List PySem.Str := ["_wall", "ZERO", "form", "variable", "plus", "times", "minus", "image", "is_integer", "is_count", "is_tuple", "statements_in", "proc_named", "assigned_in", "passed_on", "moving_table", "variable_of", "moving_items", "inputs_of_proc", "outcomes_of_proc", "inputs_of", "outcomes_of", "LEFT", "RIGHT", "sided", "marked", "both_ways", "size_of", "state_inputs", "state_names"]
def lo1 : List PySem.Str := ["Pair", "ask_name", "NOTHING", "is_converter", "right_pairs", "equal_states", "exchange_claim", "_law_start", "_law_draw", "_law_words", "_law_is_int", "_law_same", "_law_form", "_law_num", "_law_add", "_law_needs", "_law_side", "_law_spec", "_law_two", "_law_both_ways", "_law_converter", "_law_marked", "_law_ask", "_law_ask_form", "_law_some_form", "_law_claim", "_law_faults"]
def loose : List PySem.Str := lo0 ++ lo1
theorem run (w : World) : HandSHeadRun.RunEq R (PySem.W.view R.prog [65]) hk ob 4000 loose w := by
  intro os
  kernel_rfl
end Hd
set_option Elab.async false
set_option linter.all false
set_option maxRecDepth 100000
set_option maxHeartbeats 4000000
set_option autoImplicit false
namespace Hd
open PySem PySem.Spec L2 PI
structure FD (K : PySem.W.Frag) (mg : Str → Option Value) (x : Str) (d : He.DefD) : Prop where
  ex : ∃ f fd, FunD K d.name d.qual d.params d.body d.scope [] [] f fd ∧ mg x = some (.ref f)
structure MDe (K : PySem.W.Frag) (C : Addr) (m : Str) (d : He.DefD) : Prop where
  ex : ∃ f fd, FunD K d.name d.qual d.params d.body d.scope [] [] f fd ∧ Cls K C ∧ Meth K C m f
structure NDe (K : PySem.W.Frag) (mg : Str → Option Value) (x : Str) (C : Addr) (d : He.DefD) : Prop where
  ex : ∃ f fd, FunD K d.name d.qual d.params d.body d.scope [] [] f fd ∧ Mk K C f ∧ mg x = some (.ref C)
def ok_cores (c : Nat) : Bool := c == 0
def ok_invariants (c : Nat) : Bool := c == 0
def ok_parts (c : Nat) : Bool := c == 0
structure Bnd (K : PySem.W.Frag) (mg : Str → Option Value) (cl : Cl) : Prop where
  f_u_law_start : FD K mg "_law_start" d_u_law_start
  f_u_law_spec : FD K mg "_law_spec" d_u_law_spec
  f_u_law_draw : FD K mg "_law_draw" d_u_law_draw
  f_u_law_two : FD K mg "_law_two" d_u_law_two
  f_u_law_words : FD K mg "_law_words" d_u_law_words
  f_u_law_num : FD K mg "_law_num" d_u_law_num
  f_u_law_converter : FD K mg "_law_converter" d_u_law_converter
  f_Pair_init : NDe K mg "Pair" (cl 0) d_Pair_init
  f_u_law_faults : FD K mg "_law_faults" d_u_law_faults
  f_u_law_ask : FD K mg "_law_ask" d_u_law_ask
  f_u_law_ask_form : FD K mg "_law_ask_form" d_u_law_ask_form
  f_variable_of : FD K mg "variable_of" d_variable_of
  f_inputs_of_proc : FD K mg "inputs_of_proc" d_inputs_of_proc
  f_proc_named : FD K mg "proc_named" d_proc_named
  f_inputs_of : FD K mg "inputs_of" d_inputs_of
  f_form : FD K mg "form" d_form
  f_image : FD K mg "image" d_image
  f_u_law_marked : FD K mg "_law_marked" d_u_law_marked
  f_moving_items : FD K mg "moving_items" d_moving_items
  f_outcomes_of_proc : FD K mg "outcomes_of_proc" d_outcomes_of_proc
  f_statements_in : FD K mg "statements_in" d_statements_in
  f_assigned_in : FD K mg "assigned_in" d_assigned_in
  f_passed_on : FD K mg "passed_on" d_passed_on
  f_moving_table : FD K mg "moving_table" d_moving_table
  f_outcomes_of : FD K mg "outcomes_of" d_outcomes_of
  f_plus : FD K mg "plus" d_plus
  f_times : FD K mg "times" d_times
  f_minus : FD K mg "minus" d_minus
  f_u_law_both_ways : FD K mg "_law_both_ways" d_u_law_both_ways
  f_u_law_claim : FD K mg "_law_claim" d_u_law_claim
  f_u_law_is_int : FD K mg "_law_is_int" d_u_law_is_int
  f_u_law_same : FD K mg "_law_same" d_u_law_same
  f_u_law_needs : FD K mg "_law_needs" d_u_law_needs
  f_u_law_add : FD K mg "_law_add" d_u_law_add
  f_u_law_side : FD K mg "_law_side" d_u_law_side
  f_is_tuple : FD K mg "is_tuple" d_is_tuple
  f_size_of : FD K mg "size_of" d_size_of
  f_is_integer : FD K mg "is_integer" d_is_integer
  f_is_count : FD K mg "is_count" d_is_count
  f_is_converter : FD K mg "is_converter" d_is_converter
  f_variable : FD K mg "variable" d_variable
  f_both_ways : FD K mg "both_ways" d_both_ways
  f_equal_states : FD K mg "equal_states" d_equal_states
  f_ask_name : FD K mg "ask_name" d_ask_name
  f_state_inputs : FD K mg "state_inputs" d_state_inputs
  f_state_names : FD K mg "state_names" d_state_names
  f_right_pairs : FD K mg "right_pairs" d_right_pairs
  f_Pair_state_arrays : MDe K (cl 0) "state_arrays" d_Pair_state_arrays
  f_sided : FD K mg "sided" d_sided
  f_exchange_claim : FD K mg "exchange_claim" d_exchange_claim
  f_u_law_form : FD K mg "_law_form" d_u_law_form
  f_u_law_some_form : FD K mg "_law_some_form" d_u_law_some_form
  f_law : FD K mg "law" d_law
  n_len : mg "len" = none
  n_tuple : mg "tuple" = none
  n_list : mg "list" = none
  n_range : mg "range" = none
  n_zip : mg "zip" = none
  n_sorted : mg "sorted" = none
  n_all : mg "all" = none
  n_abs : mg "abs" = none
  n_int : mg "int" = none
  n_isinstance : mg "isinstance" = none
  n_str : mg "str" = none
  n_bool : mg "bool" = none
  n_set : mg "set" = none
  k_LEFT : ∃ t, mg "LEFT" = some (.str "l." t)
  k_RIGHT : ∃ t, mg "RIGHT" = some (.str "r." t)
  k_NOTHING : ∃ t, mg "NOTHING" = some (.str "." t)
  at_cores : ∀ c, ok_cores c = true → Cls K (cl c) ∧ NoAttr K (cl c) "cores"
  at_invariants : ∀ c, ok_invariants c = true → Cls K (cl c) ∧ NoAttr K (cl c) "invariants"
  at_parts : ∀ c, ok_parts c = true → Cls K (cl c) ∧ NoAttr K (cl c) "parts"
def clOf (K : PySem.W.Frag) : Cl
  | 0 => He.ga K "Pair"
  | _ => 0
theorem bnd {K : PySem.W.Frag} {mg : Str → Option Value} {h : Heap} (X : K.In h) (G : h.Ns mainGlobals mg) (c : He.SaysD fa fn K) : Bnd K mg (clOf K) := by
  refine ⟨⟨_, _, (c.def_ 31 (d := d_u_law_start) rfl).choose_spec, He.glo_ok X G (c.fact 31 (f := .glo "_law_start") rfl)⟩,
    ⟨_, _, (c.def_ 41 (d := d_u_law_spec) rfl).choose_spec, He.glo_ok X G (c.fact 41 (f := .glo "_law_spec") rfl)⟩,
    ⟨_, _, (c.def_ 32 (d := d_u_law_draw) rfl).choose_spec, He.glo_ok X G (c.fact 32 (f := .glo "_law_draw") rfl)⟩,
    ⟨_, _, (c.def_ 42 (d := d_u_law_two) rfl).choose_spec, He.glo_ok X G (c.fact 42 (f := .glo "_law_two") rfl)⟩,
    ⟨_, _, (c.def_ 33 (d := d_u_law_words) rfl).choose_spec, He.glo_ok X G (c.fact 33 (f := .glo "_law_words") rfl)⟩,
    ⟨_, _, (c.def_ 37 (d := d_u_law_num) rfl).choose_spec, He.glo_ok X G (c.fact 37 (f := .glo "_law_num") rfl)⟩,
    ⟨_, _, (c.def_ 44 (d := d_u_law_converter) rfl).choose_spec, He.glo_ok X G (c.fact 44 (f := .glo "_law_converter") rfl)⟩,
    ⟨_, _, (c.def_ 52 (d := d_Pair_init) rfl).choose_spec, He.mkr_ok (c.fact 67 (f := .mkr "Pair") rfl), He.glo_ok X G (c.fact 65 (f := .glo "Pair") rfl)⟩,
    ⟨_, _, (c.def_ 50 (d := d_u_law_faults) rfl).choose_spec, He.glo_ok X G (c.fact 50 (f := .glo "_law_faults") rfl)⟩,
    ⟨_, _, (c.def_ 46 (d := d_u_law_ask) rfl).choose_spec, He.glo_ok X G (c.fact 46 (f := .glo "_law_ask") rfl)⟩,
    ⟨_, _, (c.def_ 47 (d := d_u_law_ask_form) rfl).choose_spec, He.glo_ok X G (c.fact 47 (f := .glo "_law_ask_form") rfl)⟩,
    ⟨_, _, (c.def_ 14 (d := d_variable_of) rfl).choose_spec, He.glo_ok X G (c.fact 14 (f := .glo "variable_of") rfl)⟩,
    ⟨_, _, (c.def_ 16 (d := d_inputs_of_proc) rfl).choose_spec, He.glo_ok X G (c.fact 16 (f := .glo "inputs_of_proc") rfl)⟩,
    ⟨_, _, (c.def_ 10 (d := d_proc_named) rfl).choose_spec, He.glo_ok X G (c.fact 10 (f := .glo "proc_named") rfl)⟩,
    ⟨_, _, (c.def_ 18 (d := d_inputs_of) rfl).choose_spec, He.glo_ok X G (c.fact 18 (f := .glo "inputs_of") rfl)⟩,
    ⟨_, _, (c.def_ 0 (d := d_form) rfl).choose_spec, He.glo_ok X G (c.fact 0 (f := .glo "form") rfl)⟩,
    ⟨_, _, (c.def_ 5 (d := d_image) rfl).choose_spec, He.glo_ok X G (c.fact 5 (f := .glo "image") rfl)⟩,
    ⟨_, _, (c.def_ 45 (d := d_u_law_marked) rfl).choose_spec, He.glo_ok X G (c.fact 45 (f := .glo "_law_marked") rfl)⟩,
    ⟨_, _, (c.def_ 15 (d := d_moving_items) rfl).choose_spec, He.glo_ok X G (c.fact 15 (f := .glo "moving_items") rfl)⟩,
    ⟨_, _, (c.def_ 17 (d := d_outcomes_of_proc) rfl).choose_spec, He.glo_ok X G (c.fact 17 (f := .glo "outcomes_of_proc") rfl)⟩,
    ⟨_, _, (c.def_ 9 (d := d_statements_in) rfl).choose_spec, He.glo_ok X G (c.fact 9 (f := .glo "statements_in") rfl)⟩,
    ⟨_, _, (c.def_ 11 (d := d_assigned_in) rfl).choose_spec, He.glo_ok X G (c.fact 11 (f := .glo "assigned_in") rfl)⟩,
    ⟨_, _, (c.def_ 12 (d := d_passed_on) rfl).choose_spec, He.glo_ok X G (c.fact 12 (f := .glo "passed_on") rfl)⟩,
    ⟨_, _, (c.def_ 13 (d := d_moving_table) rfl).choose_spec, He.glo_ok X G (c.fact 13 (f := .glo "moving_table") rfl)⟩,
    ⟨_, _, (c.def_ 19 (d := d_outcomes_of) rfl).choose_spec, He.glo_ok X G (c.fact 19 (f := .glo "outcomes_of") rfl)⟩,
    ⟨_, _, (c.def_ 2 (d := d_plus) rfl).choose_spec, He.glo_ok X G (c.fact 2 (f := .glo "plus") rfl)⟩,
    ⟨_, _, (c.def_ 3 (d := d_times) rfl).choose_spec, He.glo_ok X G (c.fact 3 (f := .glo "times") rfl)⟩,
    ⟨_, _, (c.def_ 4 (d := d_minus) rfl).choose_spec, He.glo_ok X G (c.fact 4 (f := .glo "minus") rfl)⟩,
    ⟨_, _, (c.def_ 43 (d := d_u_law_both_ways) rfl).choose_spec, He.glo_ok X G (c.fact 43 (f := .glo "_law_both_ways") rfl)⟩,
    ⟨_, _, (c.def_ 49 (d := d_u_law_claim) rfl).choose_spec, He.glo_ok X G (c.fact 49 (f := .glo "_law_claim") rfl)⟩,
    ⟨_, _, (c.def_ 34 (d := d_u_law_is_int) rfl).choose_spec, He.glo_ok X G (c.fact 34 (f := .glo "_law_is_int") rfl)⟩,
    ⟨_, _, (c.def_ 35 (d := d_u_law_same) rfl).choose_spec, He.glo_ok X G (c.fact 35 (f := .glo "_law_same") rfl)⟩,
    ⟨_, _, (c.def_ 39 (d := d_u_law_needs) rfl).choose_spec, He.glo_ok X G (c.fact 39 (f := .glo "_law_needs") rfl)⟩,
    ⟨_, _, (c.def_ 38 (d := d_u_law_add) rfl).choose_spec, He.glo_ok X G (c.fact 38 (f := .glo "_law_add") rfl)⟩,
    ⟨_, _, (c.def_ 40 (d := d_u_law_side) rfl).choose_spec, He.glo_ok X G (c.fact 40 (f := .glo "_law_side") rfl)⟩,
    ⟨_, _, (c.def_ 8 (d := d_is_tuple) rfl).choose_spec, He.glo_ok X G (c.fact 8 (f := .glo "is_tuple") rfl)⟩,
    ⟨_, _, (c.def_ 23 (d := d_size_of) rfl).choose_spec, He.glo_ok X G (c.fact 23 (f := .glo "size_of") rfl)⟩,
    ⟨_, _, (c.def_ 6 (d := d_is_integer) rfl).choose_spec, He.glo_ok X G (c.fact 6 (f := .glo "is_integer") rfl)⟩,
    ⟨_, _, (c.def_ 7 (d := d_is_count) rfl).choose_spec, He.glo_ok X G (c.fact 7 (f := .glo "is_count") rfl)⟩,
    ⟨_, _, (c.def_ 27 (d := d_is_converter) rfl).choose_spec, He.glo_ok X G (c.fact 27 (f := .glo "is_converter") rfl)⟩,
    ⟨_, _, (c.def_ 1 (d := d_variable) rfl).choose_spec, He.glo_ok X G (c.fact 1 (f := .glo "variable") rfl)⟩,
    ⟨_, _, (c.def_ 22 (d := d_both_ways) rfl).choose_spec, He.glo_ok X G (c.fact 22 (f := .glo "both_ways") rfl)⟩,
    ⟨_, _, (c.def_ 29 (d := d_equal_states) rfl).choose_spec, He.glo_ok X G (c.fact 29 (f := .glo "equal_states") rfl)⟩,
    ⟨_, _, (c.def_ 26 (d := d_ask_name) rfl).choose_spec, He.glo_ok X G (c.fact 26 (f := .glo "ask_name") rfl)⟩,
    ⟨_, _, (c.def_ 24 (d := d_state_inputs) rfl).choose_spec, He.glo_ok X G (c.fact 24 (f := .glo "state_inputs") rfl)⟩,
    ⟨_, _, (c.def_ 25 (d := d_state_names) rfl).choose_spec, He.glo_ok X G (c.fact 25 (f := .glo "state_names") rfl)⟩,
    ⟨_, _, (c.def_ 28 (d := d_right_pairs) rfl).choose_spec, He.glo_ok X G (c.fact 28 (f := .glo "right_pairs") rfl)⟩,
    ⟨_, _, (c.def_ 55 (d := d_Pair_state_arrays) rfl).choose_spec, He.cls_ok (c.fact 66 (f := .cls "Pair") rfl), He.meth_ok (c.fact 70 (f := .meth "Pair" "state_arrays") rfl)⟩,
    ⟨_, _, (c.def_ 20 (d := d_sided) rfl).choose_spec, He.glo_ok X G (c.fact 20 (f := .glo "sided") rfl)⟩,
    ⟨_, _, (c.def_ 30 (d := d_exchange_claim) rfl).choose_spec, He.glo_ok X G (c.fact 30 (f := .glo "exchange_claim") rfl)⟩,
    ⟨_, _, (c.def_ 36 (d := d_u_law_form) rfl).choose_spec, He.glo_ok X G (c.fact 36 (f := .glo "_law_form") rfl)⟩,
    ⟨_, _, (c.def_ 48 (d := d_u_law_some_form) rfl).choose_spec, He.glo_ok X G (c.fact 48 (f := .glo "_law_some_form") rfl)⟩,
    ⟨_, _, (c.def_ 51 (d := d_law) rfl).choose_spec, He.glo_ok X G (c.fact 51 (f := .glo "law") rfl)⟩,
    He.free_ok X G (c.fact 52 (f := .free "len") rfl),
    He.free_ok X G (c.fact 53 (f := .free "tuple") rfl),
    He.free_ok X G (c.fact 54 (f := .free "list") rfl),
    He.free_ok X G (c.fact 55 (f := .free "range") rfl),
    He.free_ok X G (c.fact 56 (f := .free "zip") rfl),
    He.free_ok X G (c.fact 57 (f := .free "sorted") rfl),
    He.free_ok X G (c.fact 58 (f := .free "all") rfl),
    He.free_ok X G (c.fact 59 (f := .free "abs") rfl),
    He.free_ok X G (c.fact 60 (f := .free "int") rfl),
    He.free_ok X G (c.fact 61 (f := .free "isinstance") rfl),
    He.free_ok X G (c.fact 62 (f := .free "str") rfl),
    He.free_ok X G (c.fact 63 (f := .free "bool") rfl),
    He.free_ok X G (c.fact 64 (f := .free "set") rfl),
    He.str_ok X G (c.fact 78 (f := .str "LEFT" "l.") rfl),
    He.str_ok X G (c.fact 79 (f := .str "RIGHT" "r.") rfl),
    He.str_ok X G (c.fact 80 (f := .str "NOTHING" ".") rfl),
    (fun i h => by
      have e : i = 0 := by simpa [ok_cores] using h
      subst e
      exact ⟨He.cls_ok (c.fact 66 (f := .cls "Pair") rfl), He.noat_ok (c.fact 75 (f := .noat "Pair" "cores") rfl)⟩),
    (fun i h => by
      have e : i = 0 := by simpa [ok_invariants] using h
      subst e
      exact ⟨He.cls_ok (c.fact 66 (f := .cls "Pair") rfl), He.noat_ok (c.fact 76 (f := .noat "Pair" "invariants") rfl)⟩),
    (fun i h => by
      have e : i = 0 := by simpa [ok_parts] using h
      subst e
      exact ⟨He.cls_ok (c.fact 66 (f := .cls "Pair") rfl), He.noat_ok (c.fact 77 (f := .noat "Pair" "parts") rfl)⟩)⟩
theorem u1 {A : Around} (h : A.units + 64 < cLine) : A.units + 1 < cLine := by omega
/-! _law_start -/
abbrev LN_u_law_start : List Str := ["script"]
theorem sc_u_law_start : FnScope ["script"] ["script"] (defScope s_u_law_start) := ⟨rfl, rfl, rfl, by decide +kernel, rfl, by decide +kernel, by decide +kernel⟩
def der_u_law_start : { g : MS // ∀ (P : Program) (w : World) (K : PySem.W.Frag) (mg : Str → Option Value) (base : Heap) (cl : Cl) (B : Bnd K mg cl) (f : Addr) (cdv : Value) (A : Around) (outer : List PySem.Env) (s : Shared) (H : Hp) (E : XK), Room 0 (A.deeper (PyProof.Rows.envOfC d_u_law_start.qual d_u_law_start.scope s.heap.objs.size f cdv)) →
    SSs (cxOf CX0 P w K mg base ["script"] d_u_law_start.qual d_u_law_start.scope f cdv A outer s H E).nox cl [] d_u_law_start.body g } := ⟨_, fun P w K mg base cl B f cdv A outer s H E hr => by
  exact (ss_one (ss_ret (so_lst (sds_cons (so_list B.n_list (sd_var 0 (pv 0))).sd (sds_cons sd_int (sds_cons sd_int (sds_cons sd_int sds_nil)))))))⟩
def c_u_law_start : Fn := runDef 1 1 [] der_u_law_start.1
theorem ok_u_law_start {P : Program} {w : World} {K : PySem.W.Frag} {mg : Str → Option Value} {base : Heap} {cl : Cl} {A : Around} (B : Bnd K mg cl) (hr : Room 1 A) : Callee P w K mg base A cl "_law_start" c_u_law_start := by
  obtain ⟨f, fd, F, hm⟩ := B.f_u_law_start.ex
  exact ⟨_, _, ["script"], _, (def_ok F sc_u_law_start rfl rfl (by decide) fun cdv A outer s H E hr => der_u_law_start.2 P w K mg base cl B f cdv A outer s H E hr : FnOk P w K mg base CX0 1 f fd _ _), hr, hm, F.kp, (F.bindsN fun _ _ _ _ _ _ us hl => match us, hl with | [_], _ => rfl)⟩
/-! _law_spec -/
abbrev LN_u_law_spec : List Str := ["state", "name", "spec"]
theorem sc_u_law_spec : FnScope ["state", "name", "spec"] ["state", "name"] (defScope s_u_law_spec) := ⟨rfl, rfl, rfl, by decide +kernel, rfl, by decide +kernel, by decide +kernel⟩
def der_u_law_spec : { g : MS // ∀ (P : Program) (w : World) (K : PySem.W.Frag) (mg : Str → Option Value) (base : Heap) (cl : Cl) (B : Bnd K mg cl) (f : Addr) (cdv : Value) (A : Around) (outer : List PySem.Env) (s : Shared) (H : Hp) (E : XK), Room 0 (A.deeper (PyProof.Rows.envOfC d_u_law_spec.qual d_u_law_spec.scope s.heap.objs.size f cdv)) →
    SSs (cxOf CX0 P w K mg base ["state", "name", "spec"] d_u_law_spec.qual d_u_law_spec.scope f cdv A outer s H E).nox cl [0] d_u_law_spec.body g } := ⟨_, fun P w K mg base cl B f cdv A outer s H E hr => by
  exact (ss_cons (ss_set 2 (so_disp (sps_cons sd_str (sd_var 1 (pv 1)) (sps_cons sd_str sd_int (sps_cons sd_str sd_bl (sps_cons sd_str sd_int (sps_cons sd_str sd_int (sps_cons sd_str sd_int (sps_cons sd_str sd_non (sps_cons sd_str sd_int sps_nil))))))))) sc_u_law_spec.nd)
    (ss_one (ss_ret (so_move 2 (pv 2)))))⟩
def c_u_law_spec : Fn := runDef 2 3 [0] der_u_law_spec.1
theorem ok_u_law_spec {P : Program} {w : World} {K : PySem.W.Frag} {mg : Str → Option Value} {base : Heap} {cl : Cl} {A : Around} (B : Bnd K mg cl) (hr : Room 1 A) : Callee P w K mg base A cl "_law_spec" c_u_law_spec := by
  obtain ⟨f, fd, F, hm⟩ := B.f_u_law_spec.ex
  exact ⟨_, _, ["state", "name"], _, (def_ok F sc_u_law_spec rfl rfl (by decide) fun cdv A outer s H E hr => der_u_law_spec.2 P w K mg base cl B f cdv A outer s H E hr : FnOk P w K mg base CX0 1 f fd _ _), hr, hm, F.kp, (F.bindsN fun _ _ _ _ _ _ us hl => match us, hl with | [_, _], _ => rfl)⟩
/-! _law_draw -/
abbrev LN_u_law_draw : List Str := ["state", "most", "found", "cell", "mixed"]
theorem sc_u_law_draw : FnScope ["state", "most", "found", "cell", "mixed"] ["state", "most"] (defScope s_u_law_draw) := ⟨rfl, rfl, rfl, by decide +kernel, rfl, by decide +kernel, by decide +kernel⟩
def der_u_law_draw : { g : MS // ∀ (P : Program) (w : World) (K : PySem.W.Frag) (mg : Str → Option Value) (base : Heap) (cl : Cl) (B : Bnd K mg cl) (f : Addr) (cdv : Value) (A : Around) (outer : List PySem.Env) (s : Shared) (H : Hp) (E : XK), Room 0 (A.deeper (PyProof.Rows.envOfC d_u_law_draw.qual d_u_law_draw.scope s.heap.objs.size f cdv)) →
    SSs (cxOf CX0 P w K mg base ["state", "most", "found", "cell", "mixed"] d_u_law_draw.qual d_u_law_draw.scope f cdv A outer s H E).nox cl [0] d_u_law_draw.body g } := ⟨_, fun P w K mg base cl B f cdv A outer s H E hr => by
  exact (ss_cons (ss_item 0 ((sd_addG ((sd_ixG (u1 hr.units) (sd_var 0 (pv 0)) sd_int).peek) sd_int).so) (pv 0) sd_int)
    (ss_cons (ss_if ((st_gt (sd_ixG (u1 hr.units) (sd_var 0 (pv 0)) sd_int) sd_int).peek) (ss_cons (ss_set 2 ((sd_mod ((sd_intC B.n_int (sd_ixG (u1 hr.units) (sd_var 0 (pv 0)) sd_int)).peek) (sd_var 1 (pv 1))).so) sc_u_law_draw.nd)
    (ss_cons (ss_item 0 ((sd_fdiv ((sd_ixG (u1 hr.units) (sd_var 0 (pv 0)) sd_int).peek) (sd_var 1 (pv 1))).so) (pv 0) sd_int)
    (ss_one (ss_ret ((sd_var 2 (pv 2)).so))))) ss_nil)
    (ss_cons (ss_set 3 (sd_int.so) sc_u_law_draw.nd)
    (ss_cons (ss_if (st_gt ((sd_len B.n_len (sd_ixG (u1 hr.units) (sd_var 0 (pv 0)) sd_int)).peek) sd_int) (ss_one (ss_set 3 (((sd_abs B.n_abs (sd_ixG (u1 hr.units) (sd_ixG (u1 hr.units) (sd_var 0 (pv 0)) sd_int) (sd_mod (sd_intC B.n_int (sd_ixG (u1 hr.units) (sd_var 0 (pv 0)) sd_int)) (sd_len B.n_len (sd_ixG (u1 hr.units) (sd_var 0 (pv 0)) sd_int))))).peek).so) sc_u_law_draw.nd)) ss_nil)
    (ss_cons (ss_item 0 ((sd_addG ((sd_ixG (u1 hr.units) (sd_var 0 (pv 0)) sd_int).peek) sd_int).so) (pv 0) sd_int)
    (ss_cons (ss_if (st_ge (sd_var 3 (pv 3)) (sd_pow sd_int sd_int)) (ss_cons (ss_item 0 ((sd_fdiv (sd_var 3 (pv 3)) (sd_var 1 (pv 1))).so) (pv 0) sd_int)
    (ss_one (ss_ret ((sd_mod (sd_intC B.n_int (sd_var 3 (pv 3))) (sd_var 1 (pv 1))).so)))) ss_nil)
    (ss_cons (ss_set 4 ((sd_mod (sd_intC B.n_int (sd_addG (sd_mulG (sd_addG (sd_var 3 (pv 3)) sd_int) sd_int) (sd_mulG ((sd_ixG (u1 hr.units) (sd_var 0 (pv 0)) sd_int).peek) sd_int))) sd_int).so) sc_u_law_draw.nd)
    (ss_cons (ss_set 4 ((sd_mod (sd_intC B.n_int (sd_addG (sd_addG (sd_mulG (sd_var 4 (pv 4)) sd_int) (sd_fdiv (sd_var 3 (pv 3)) sd_int)) ((sd_ixG (u1 hr.units) (sd_var 0 (pv 0)) sd_int).peek))) sd_int).so) sc_u_law_draw.nd)
    (ss_one (ss_ret ((sd_mod (sd_fdiv (sd_var 4 (pv 4)) sd_int) (sd_var 1 (pv 1))).so)))))))))))⟩
def c_u_law_draw : Fn := runDef 2 5 [0] der_u_law_draw.1
theorem ok_u_law_draw {P : Program} {w : World} {K : PySem.W.Frag} {mg : Str → Option Value} {base : Heap} {cl : Cl} {A : Around} (B : Bnd K mg cl) (hr : Room 1 A) : Callee P w K mg base A cl "_law_draw" c_u_law_draw := by
  obtain ⟨f, fd, F, hm⟩ := B.f_u_law_draw.ex
  exact ⟨_, _, ["state", "most"], _, (def_ok F sc_u_law_draw rfl rfl (by decide) fun cdv A outer s H E hr => der_u_law_draw.2 P w K mg base cl B f cdv A outer s H E hr : FnOk P w K mg base CX0 1 f fd _ _), hr, hm, F.kp, (F.bindsN fun _ _ _ _ _ _ us hl => match us, hl with | [_, _], _ => rfl)⟩
/-! _law_two -/
abbrev LN_u_law_two : List Str := ["state", "one", "other", "many"]
theorem sc_u_law_two : FnScope ["state", "one", "other", "many"] ["state"] (defScope s_u_law_two) := ⟨rfl, rfl, rfl, by decide +kernel, rfl, by decide +kernel, by decide +kernel⟩
def der_u_law_two : { g : MS // ∀ (P : Program) (w : World) (K : PySem.W.Frag) (mg : Str → Option Value) (base : Heap) (cl : Cl) (B : Bnd K mg cl) (f : Addr) (cdv : Value) (A : Around) (outer : List PySem.Env) (s : Shared) (H : Hp) (E : XK), Room 2 (A.deeper (PyProof.Rows.envOfC d_u_law_two.qual d_u_law_two.scope s.heap.objs.size f cdv)) →
    SSs (cxOf CX0 P w K mg base ["state", "one", "other", "many"] d_u_law_two.qual d_u_law_two.scope f cdv A outer s H E).nox cl [0] d_u_law_two.body g } := ⟨_, fun P w K mg base cl B f cdv A outer s H E hr => by
  have c_u_law_draw := ok_u_law_draw (P := P) (w := w) (base := base) B (hr.mono (by decide : 1 ≤ 2))
  have c_u_law_spec := ok_u_law_spec (P := P) (w := w) (base := base) B (hr.mono (by decide : 1 ≤ 2))
  exact (ss_cons (ss_set 1 (so_call c_u_law_spec (by decide) (sa_lend 0 (pv 0) (sa_cons (sd_str.so) sa_nil))) sc_u_law_two.nd)
    (ss_cons (ss_set 2 (so_call c_u_law_spec (by decide) (sa_lend 0 (pv 0) (sa_cons (sd_str.so) sa_nil))) sc_u_law_two.nd)
    (ss_cons (ss_set 3 ((sd_addG sd_int (so_call c_u_law_draw (by decide) (sa_lend 0 (pv 0) (sa_cons (sd_int.so) sa_nil))).sd).so) sc_u_law_two.nd)
    (ss_cons (ss_put 1 (u1 hr.units) (sd_var 3 (pv 3)) (pv 1) sd_str)
    (ss_cons (ss_put 2 (u1 hr.units) (sd_var 3 (pv 3)) (pv 2) sd_str)
    (ss_cons (ss_put 2 (u1 hr.units) (sd_ixG (u1 hr.units) (so_lst (sds_cons sd_int (sds_cons sd_int (sds_cons sd_int (sds_cons sd_int (sds_cons (sd_neg sd_int) sds_nil)))))).sd (so_call c_u_law_draw (by decide) (sa_lend 0 (pv 0) (sa_cons (sd_int.so) sa_nil))).sd) (pv 2) sd_str)
    (ss_cons (ss_put 2 (u1 hr.units) (so_call c_u_law_draw (by decide) (sa_lend 0 (pv 0) (sa_cons (sd_int.so) sa_nil))).sd (pv 2) sd_str)
    (ss_cons (ss_put 2 (u1 hr.units) (sd_and ((sd_eq hr.units (sd_ixG (u1 hr.units) (sd_var 2 (pv 2)) sd_str) sd_int).peek) (sd_one (sd_eq hr.units (so_call c_u_law_draw (by decide) (sa_lend 0 (pv 0) (sa_cons (sd_int.so) sa_nil))).sd sd_int))) (pv 2) sd_str)
    (ss_cons (ss_if (st_eq hr.units (so_call c_u_law_draw (by decide) (sa_lend 0 (pv 0) (sa_cons (sd_int.so) sa_nil))).sd sd_int) (ss_cons (ss_put 1 (u1 hr.units) sd_int (pv 1) sd_str)
    (ss_one (ss_put 2 (u1 hr.units) sd_int (pv 2) sd_str))) ss_nil)
    (ss_one (ss_ret ((sd_tup (sds_cons (sd_take 1 (pv 1)) (sds_cons (sd_take 2 (pv 2)) sds_nil))).so))))))))))))⟩
def c_u_law_two : Fn := runDef 1 4 [0] der_u_law_two.1
theorem ok_u_law_two {P : Program} {w : World} {K : PySem.W.Frag} {mg : Str → Option Value} {base : Heap} {cl : Cl} {A : Around} (B : Bnd K mg cl) (hr : Room 3 A) : Callee P w K mg base A cl "_law_two" c_u_law_two := by
  obtain ⟨f, fd, F, hm⟩ := B.f_u_law_two.ex
  exact ⟨_, _, ["state"], _, (def_ok F sc_u_law_two rfl rfl (by decide) fun cdv A outer s H E hr => der_u_law_two.2 P w K mg base cl B f cdv A outer s H E hr : FnOk P w K mg base CX0 3 f fd _ _), hr, hm, F.kp, (F.bindsN fun _ _ _ _ _ _ us hl => match us, hl with | [_], _ => rfl)⟩
/-! _law_words -/
abbrev LN_u_law_words : List Str := ["state", "many", "letters", "start", "step", "shared", "k"]
theorem sc_u_law_words : FnScope ["state", "many", "letters", "start", "step", "shared", "k"] ["state", "many"] (defScope s_u_law_words) := ⟨rfl, rfl, rfl, by decide +kernel, rfl, by decide +kernel, by decide +kernel⟩
def der_u_law_words : { g : MS // ∀ (P : Program) (w : World) (K : PySem.W.Frag) (mg : Str → Option Value) (base : Heap) (cl : Cl) (B : Bnd K mg cl) (f : Addr) (cdv : Value) (A : Around) (outer : List PySem.Env) (s : Shared) (H : Hp) (E : XK), Room 2 (A.deeper (PyProof.Rows.envOfC d_u_law_words.qual d_u_law_words.scope s.heap.objs.size f cdv)) →
    SSs (cxOf CX0 P w K mg base ["state", "many", "letters", "start", "step", "shared", "k"] d_u_law_words.qual d_u_law_words.scope f cdv A outer s H E).nox cl [0] d_u_law_words.body g } := ⟨_, fun P w K mg base cl B f cdv A outer s H E hr => by
  have c_u_law_draw := ok_u_law_draw (P := P) (w := w) (base := base) B (hr.mono (by decide : 1 ≤ 2))
  exact (ss_cons (ss_set 2 (sd_str.so) sc_u_law_words.nd)
    (ss_cons (ss_set 3 ((so_call c_u_law_draw (by decide) (sa_lend 0 (pv 0) (sa_cons (sd_int.so) sa_nil))).sd.so) sc_u_law_words.nd)
    (ss_cons (ss_set 4 ((sd_addG sd_int (sd_mulG sd_int (so_call c_u_law_draw (by decide) (sa_lend 0 (pv 0) (sa_cons (sd_int.so) sa_nil))).sd)).so) sc_u_law_words.nd)
    (ss_cons (ss_set 5 ((sd_slice sd_str spo_none (spo_some (so_call c_u_law_draw (by decide) (sa_lend 0 (pv 0) (sa_cons (sd_int.so) sa_nil))).sd)).so) sc_u_law_words.nd)
    (ss_cons (ss_if (st_eq hr.units (so_call c_u_law_draw (by decide) (sa_lend 0 (pv 0) (sa_cons (sd_int.so) sa_nil))).sd sd_int) (ss_one (ss_ret (so_comp (own := [("k", 6)]) (si_range1 B.n_range (sd_var 1 (pv 1))) (blkOk_by (show blkC LN_u_law_words d_u_law_words.scope _ _ = true by decide +kernel)) (fun s H C cs fp => (sg_name 6 (pg_name sc_u_law_words.nd (by rfl) (by first | exact Or.inl rfl | exact Or.inr rfl)))) (fun s H C cs fp => sts_nil) (fun s H C cs fp => (sd_addG (sd_var 5 (pv 5)) (sd_ixG (u1 hr.units) (sd_var 2 (pv 2)) (sd_mod (sd_intC B.n_int (sd_addG (sd_var 3 (pv 3)) (sd_mulG (sd_var 6 (pv 6)) (sd_var 4 (pv 4))))) sd_int)))) sc_u_law_words.nd))) ss_nil)
    (ss_one (ss_ret (so_comp (own := [("k", 6)]) (si_range1 B.n_range (sd_var 1 (pv 1))) (blkOk_by (show blkC LN_u_law_words d_u_law_words.scope _ _ = true by decide +kernel)) (fun s H C cs fp => (sg_name 6 (pg_name sc_u_law_words.nd (by rfl) (by first | exact Or.inl rfl | exact Or.inr rfl)))) (fun s H C cs fp => sts_nil) (fun s H C cs fp => (sd_addG (sd_ixG (u1 hr.units) (sd_var 2 (pv 2)) (sd_mod (sd_intC B.n_int (sd_addG (sd_var 3 (pv 3)) (sd_mulG (sd_var 6 (pv 6)) (sd_var 4 (pv 4))))) sd_int)) (sd_var 5 (pv 5)))) sc_u_law_words.nd))))))))⟩
def c_u_law_words : Fn := runDef 2 7 [0] der_u_law_words.1
theorem ok_u_law_words {P : Program} {w : World} {K : PySem.W.Frag} {mg : Str → Option Value} {base : Heap} {cl : Cl} {A : Around} (B : Bnd K mg cl) (hr : Room 3 A) : Callee P w K mg base A cl "_law_words" c_u_law_words := by
  obtain ⟨f, fd, F, hm⟩ := B.f_u_law_words.ex
  exact ⟨_, _, ["state", "many"], _, (def_ok F sc_u_law_words rfl rfl (by decide) fun cdv A outer s H E hr => der_u_law_words.2 P w K mg base cl B f cdv A outer s H E hr : FnOk P w K mg base CX0 3 f fd _ _), hr, hm, F.kp, (F.bindsN fun _ _ _ _ _ _ us hl => match us, hl with | [_, _], _ => rfl)⟩
/-! _law_num -/
abbrev LN_u_law_num : List Str := ["k"]
theorem sc_u_law_num : FnScope ["k"] ["k"] (defScope s_u_law_num) := ⟨rfl, rfl, rfl, by decide +kernel, rfl, by decide +kernel, by decide +kernel⟩
def der_u_law_num : { g : MS // ∀ (P : Program) (w : World) (K : PySem.W.Frag) (mg : Str → Option Value) (base : Heap) (cl : Cl) (B : Bnd K mg cl) (f : Addr) (cdv : Value) (A : Around) (outer : List PySem.Env) (s : Shared) (H : Hp) (E : XK), Room 0 (A.deeper (PyProof.Rows.envOfC d_u_law_num.qual d_u_law_num.scope s.heap.objs.size f cdv)) →
    SSs (cxOf CX0 P w K mg base ["k"] d_u_law_num.qual d_u_law_num.scope f cdv A outer s H E).nox cl [] d_u_law_num.body g } := ⟨_, fun P w K mg base cl B f cdv A outer s H E hr => by
  exact (ss_cons (ss_if (st_lt (sd_var 0 (pv 0)) sd_int) (ss_one (ss_ret ((sd_tup (sds_cons sd_str (sds_cons (sd_neg sd_int) (sds_cons (sd_tup (sds_cons sd_str (sds_cons (sd_neg (sd_var 0 (pv 0))) sds_nil))) sds_nil)))).so))) ss_nil)
    (ss_one (ss_ret ((sd_tup (sds_cons sd_str (sds_cons (sd_var 0 (pv 0)) sds_nil))).so))))⟩
def c_u_law_num : Fn := runDef 1 1 [] der_u_law_num.1
theorem ok_u_law_num {P : Program} {w : World} {K : PySem.W.Frag} {mg : Str → Option Value} {base : Heap} {cl : Cl} {A : Around} (B : Bnd K mg cl) (hr : Room 1 A) : Callee P w K mg base A cl "_law_num" c_u_law_num := by
  obtain ⟨f, fd, F, hm⟩ := B.f_u_law_num.ex
  exact ⟨_, _, ["k"], _, (def_ok F sc_u_law_num rfl rfl (by decide) fun cdv A outer s H E hr => der_u_law_num.2 P w K mg base cl B f cdv A outer s H E hr : FnOk P w K mg base CX0 1 f fd _ _), hr, hm, F.kp, (F.bindsN fun _ _ _ _ _ _ us hl => match us, hl with | [_], _ => rfl)⟩
/-! _law_converter -/
abbrev LN_u_law_converter : List Str := ["state", "specs", "x", "a", "w", "t", "items", "places", "shift", "body", "test"]
theorem sc_u_law_converter : FnScope ["state", "specs", "x", "a", "w", "t", "items", "places", "shift", "body", "test"] ["state", "specs"] (defScope s_u_law_converter) := ⟨rfl, rfl, rfl, by decide +kernel, rfl, by decide +kernel, by decide +kernel⟩
def der_u_law_converter : { g : MS // ∀ (P : Program) (w : World) (K : PySem.W.Frag) (mg : Str → Option Value) (base : Heap) (cl : Cl) (B : Bnd K mg cl) (f : Addr) (cdv : Value) (A : Around) (outer : List PySem.Env) (s : Shared) (H : Hp) (E : XK), Room 4 (A.deeper (PyProof.Rows.envOfC d_u_law_converter.qual d_u_law_converter.scope s.heap.objs.size f cdv)) →
    SSs (cxOf CX0 P w K mg base ["state", "specs", "x", "a", "w", "t", "items", "places", "shift", "body", "test"] d_u_law_converter.qual d_u_law_converter.scope f cdv A outer s H E).nox cl [0] d_u_law_converter.body g } := ⟨_, fun P w K mg base cl B f cdv A outer s H E hr => by
  have c_u_law_draw := ok_u_law_draw (P := P) (w := w) (base := base) B (hr.mono (by decide : 1 ≤ 4))
  have c_u_law_num := ok_u_law_num (P := P) (w := w) (base := base) B (hr.mono (by decide : 1 ≤ 4))
  have c_u_law_words := ok_u_law_words (P := P) (w := w) (base := base) B (hr.mono (by decide : 3 ≤ 4))
  exact (ss_cons (ss_unp (so_call c_u_law_words (by decide) (sa_lend 0 (pv 0) (sa_cons (sd_int.so) sa_nil))).sd (sg_tup (n := 4) (sgs_cons (sg_name 2 (pg_name sc_u_law_converter.nd (by rfl) (by first | exact Or.inl rfl | exact Or.inr rfl))) (sgs_cons (sg_name 3 (pg_name sc_u_law_converter.nd (by rfl) (by first | exact Or.inl rfl | exact Or.inr rfl))) (sgs_cons (sg_name 4 (pg_name sc_u_law_converter.nd (by rfl) (by first | exact Or.inl rfl | exact Or.inr rfl))) (sgs_cons (sg_name 5 (pg_name sc_u_law_converter.nd (by rfl) (by first | exact Or.inl rfl | exact Or.inr rfl))) sgs_nil))))))
    (ss_cons (ss_set 6 ((sd_tup (sds_cons (sd_tup (sds_cons sd_str (sds_cons (sd_var 2 (pv 2)) sds_nil))) (sds_cons (sd_tup (sds_cons sd_str (sds_cons (sd_var 3 (pv 3)) sds_nil))) sds_nil))).so) sc_u_law_converter.nd)
    (ss_cons (ss_set 7 ((sd_tup (sds_cons sd_int sds_nil)).so) sc_u_law_converter.nd)
    (ss_cons (ss_if (st_eq hr.units (sd_ixG (u1 hr.units) (sd_ixG (u1 hr.units) (sd_var 1 (pv 1)) sd_int) sd_str) sd_int) (ss_cons (ss_set 6 ((sd_addG (sd_var 6 (pv 6)) (sd_tup (sds_cons (sd_tup (sds_cons sd_str (sds_cons (sd_var 4 (pv 4)) sds_nil))) sds_nil))).so) sc_u_law_converter.nd)
    (ss_cons (ss_set 7 ((sd_tup (sds_cons sd_int (sds_cons sd_int sds_nil))).so) sc_u_law_converter.nd)
    (ss_one (ss_if (st_tru (sd_ixG (u1 hr.units) (sd_ixG (u1 hr.units) (sd_var 1 (pv 1)) sd_int) sd_str)) (ss_one (ss_set 7 ((sd_tup (sds_cons sd_int (sds_cons sd_int sds_nil))).so) sc_u_law_converter.nd)) ss_nil)))) ss_nil)
    (ss_cons (ss_set 8 ((sd_sub (sd_ixG (u1 hr.units) (sd_ixG (u1 hr.units) (sd_var 1 (pv 1)) sd_int) sd_str) (sd_ixG (u1 hr.units) (sd_ixG (u1 hr.units) (sd_var 1 (pv 1)) sd_int) sd_str)).so) sc_u_law_converter.nd)
    (ss_cons (ss_set 9 ((sd_tup (sds_cons (sd_tup (sds_cons sd_str (sds_cons (sd_tup (sds_cons (sd_tup (sds_cons sd_str (sds_cons (sd_tup (sds_cons sd_str (sds_cons (sd_var 2 (pv 2)) sds_nil))) (sds_cons (so_callD c_u_law_num (sds_cons (sd_var 8 (pv 8)) sds_nil)).sd sds_nil)))) sds_nil)) sds_nil))) sds_nil)).so) sc_u_law_converter.nd)
    (ss_cons (ss_if (st_eq hr.units (so_call c_u_law_draw (by decide) (sa_lend 0 (pv 0) (sa_cons (sd_int.so) sa_nil))).sd sd_int) (ss_cons (ss_set 10 ((sd_tup (sds_cons sd_str (sds_cons (sd_tup (sds_cons sd_str (sds_cons (sd_tup (sds_cons sd_str (sds_cons (sd_var 2 (pv 2)) sds_nil))) (sds_cons (sd_tup (sds_cons sd_str (sds_cons sd_int sds_nil))) sds_nil)))) (sds_cons (sd_tup (sds_cons (sd_tup (sds_cons sd_str (sds_cons (sd_tup (sds_cons (sd_tup (sds_cons (sd_var 5 (pv 5)) (sds_cons (sd_tup (sds_cons sd_str (sds_cons sd_int sds_nil))) sds_nil))) sds_nil)) sds_nil))) sds_nil)) (sds_cons (sd_tup (sds_cons (sd_tup (sds_cons sd_str sds_nil)) sds_nil)) sds_nil))))).so) sc_u_law_converter.nd)
    (ss_one (ss_set 9 ((sd_addG (sd_tup (sds_cons (sd_var 10 (pv 10)) sds_nil)) (sd_var 9 (pv 9))).so) sc_u_law_converter.nd))) ss_nil)
    (ss_one (ss_ret ((sd_tup (sds_cons (sd_tup (sds_cons sd_str (sds_cons (sd_var 6 (pv 6)) (sds_cons (sd_tup (sds_cons sd_str sds_nil)) (sds_cons (sd_tup (sds_cons (sd_tup (sds_cons sd_str (sds_cons (sd_var 5 (pv 5)) sds_nil))) sds_nil)) (sds_cons (sd_tup sds_nil) (sds_cons (sd_tup sds_nil) (sds_cons (sd_tup sds_nil) (sds_cons (sd_tup sds_nil) (sds_cons (sd_var 9 (pv 9)) sds_nil)))))))))) (sds_cons (sd_tup (sds_cons sd_str (sds_cons (sd_var 7 (pv 7)) sds_nil))) sds_nil))).so))))))))))⟩
def c_u_law_converter : Fn := runDef 2 11 [0] der_u_law_converter.1
theorem ok_u_law_converter {P : Program} {w : World} {K : PySem.W.Frag} {mg : Str → Option Value} {base : Heap} {cl : Cl} {A : Around} (B : Bnd K mg cl) (hr : Room 5 A) : Callee P w K mg base A cl "_law_converter" c_u_law_converter := by
  obtain ⟨f, fd, F, hm⟩ := B.f_u_law_converter.ex
  exact ⟨_, _, ["state", "specs"], _, (def_ok F sc_u_law_converter rfl rfl (by decide) fun cdv A outer s H E hr => der_u_law_converter.2 P w K mg base cl B f cdv A outer s H E hr : FnOk P w K mg base CX0 5 f fd _ _), hr, hm, F.kp, (F.bindsN fun _ _ _ _ _ _ us hl => match us, hl with | [_, _], _ => rfl)⟩
/-! Pair.__init__ -/
abbrev LN_Pair_init : List Str := ["self", "cores", "parts", "invariants"]
theorem sc_Pair_init : FnScope ["self", "cores", "parts", "invariants"] ["self", "cores", "parts", "invariants"] (defScope s_Pair_init) := ⟨rfl, rfl, rfl, by decide +kernel, rfl, by decide +kernel, by decide +kernel⟩
def der_Pair_init : { g : MS // ∀ (P : Program) (w : World) (K : PySem.W.Frag) (mg : Str → Option Value) (base : Heap) (cl : Cl) (B : Bnd K mg cl) (f : Addr) (cdv : Value) (A : Around) (outer : List PySem.Env) (s : Shared) (H : Hp) (E : XK), Room 0 (A.deeper (PyProof.Rows.envOfC d_Pair_init.qual d_Pair_init.scope s.heap.objs.size f cdv)) →
    SSs (cxOf CX0 P w K mg base ["self", "cores", "parts", "invariants"] d_Pair_init.qual d_Pair_init.scope f cdv A outer s H E).nox cl [0] d_Pair_init.body g } := ⟨_, fun P w K mg base cl B f cdv A outer s H E hr => by
  exact (ss_cons (ss_fld 0 (ok := ok_cores) (B.at_cores) ((sd_var 1 (pv 1)).so) (pv 0))
    (ss_cons (ss_fld 0 (ok := ok_parts) (B.at_parts) ((sd_var 2 (pv 2)).so) (pv 0))
    (ss_one (ss_fld 0 (ok := ok_invariants) (B.at_invariants) ((sd_var 3 (pv 3)).so) (pv 0)))))⟩
def c_Pair_init : Fn := runDef 4 4 [0] der_Pair_init.1
theorem ok_Pair_init {P : Program} {w : World} {K : PySem.W.Frag} {mg : Str → Option Value} {base : Heap} {cl : Cl} {A : Around} (B : Bnd K mg cl) (hr : Room 2 A) : Maker P w K mg base A cl 0 "Pair" c_Pair_init := by
  obtain ⟨f, fd, F, hm, hx⟩ := B.f_Pair_init.ex
  exact ⟨_, _, ["self", "cores", "parts", "invariants"], _, (def_ok F sc_Pair_init rfl rfl (by decide) fun cdv A outer s H E hr => der_Pair_init.2 P w K mg base cl B f cdv A outer s H E hr : FnOk P w K mg base CX0 1 f fd _ _), hr, hm, hx, (F.bindsN fun _ _ _ _ _ _ us hl => match us, hl with | [_, _, _, _], _ => rfl)⟩
/-! _law_faults -/
abbrev LN_u_law_faults : List Str := ["proc", "converter", "name", "places", "found", "odd"]
theorem sc_u_law_faults : FnScope ["proc", "converter", "name", "places", "found", "odd"] ["proc", "converter"] (defScope s_u_law_faults) := ⟨rfl, rfl, rfl, by decide +kernel, rfl, by decide +kernel, by decide +kernel⟩
def der_u_law_faults : { g : MS // ∀ (P : Program) (w : World) (K : PySem.W.Frag) (mg : Str → Option Value) (base : Heap) (cl : Cl) (B : Bnd K mg cl) (f : Addr) (cdv : Value) (A : Around) (outer : List PySem.Env) (s : Shared) (H : Hp) (E : XK), Room 0 (A.deeper (PyProof.Rows.envOfC d_u_law_faults.qual d_u_law_faults.scope s.heap.objs.size f cdv)) →
    SSs (cxOf CX0 P w K mg base ["proc", "converter", "name", "places", "found", "odd"] d_u_law_faults.qual d_u_law_faults.scope f cdv A outer s H E).nox cl [] d_u_law_faults.body g } := ⟨_, fun P w K mg base cl B f cdv A outer s H E hr => by
  exact (ss_cons (ss_unp (sd_var 1 (pv 1)) (sg_tup (n := 2) (sgs_cons (sg_name 2 (pg_name sc_u_law_faults.nd (by rfl) (by first | exact Or.inl rfl | exact Or.inr rfl))) (sgs_cons (sg_name 3 (pg_name sc_u_law_faults.nd (by rfl) (by first | exact Or.inl rfl | exact Or.inr rfl))) sgs_nil))))
    (ss_cons (ss_setComp 4 (own := [("odd", 5)]) (si_seq (so_lst (sds_cons (sd_tup (sds_cons (sd_addG (sd_var 2 (pv 2)) sd_str) (sds_cons (sd_var 3 (pv 3)) sds_nil))) (sds_cons (sd_tup (sds_cons (sd_var 2 (pv 2)) sds_nil)) (sds_cons (sd_tup (sds_cons (sd_var 2 (pv 2)) (sds_cons (sd_var 3 (pv 3)) (sds_cons sd_int sds_nil)))) (sds_cons sd_int (sds_cons (sd_tup sds_nil) (sds_cons (sd_var 2 (pv 2)) (sds_cons (sd_tup (sds_cons sd_int (sds_cons (sd_var 3 (pv 3)) sds_nil))) sds_nil)))))))).sd) (blkOk_by (show blkC LN_u_law_faults d_u_law_faults.scope _ _ = true by decide +kernel)) (fun s H C cs fp => (sg_name 5 (pg_name sc_u_law_faults.nd (by rfl) (by first | exact Or.inl rfl | exact Or.inr rfl)))) (fun s H C cs fp => sts_nil) (fun s H C cs fp => (sd_tup (sds_cons (sd_var 0 (pv 0)) (sds_cons (sd_var 5 (pv 5)) sds_nil)))) sc_u_law_faults.nd)
    (ss_cons (ss_for (si_seq (so_lst (sds_cons (sd_slice (sd_var 3 (pv 3)) (spo_some sd_int) spo_none) (sds_cons (sd_addG (sd_var 3 (pv 3)) (sd_tup (sds_cons sd_int sds_nil))) (sds_cons (sd_addG (sd_var 3 (pv 3)) (sd_tup (sds_cons (sd_len B.n_len (sd_var 3 (pv 3))) sds_nil))) (sds_cons (sd_addG (sd_tup (sds_cons sd_int sds_nil)) (sd_slice (sd_var 3 (pv 3)) (spo_some sd_int) spo_none)) (sds_cons (sd_addG (sd_tup (sds_cons (sd_neg sd_int) sds_nil)) (sd_slice (sd_var 3 (pv 3)) (spo_some sd_int) spo_none)) (sds_cons sd_int sds_nil))))))).sd) (sg_name 5 (pg_name sc_u_law_faults.nd (by rfl) (by first | exact Or.inl rfl | exact Or.inr rfl))) (ss_one (ss_append 4 ((sd_tup (sds_cons (sd_var 0 (pv 0)) (sds_cons (sd_tup (sds_cons (sd_var 2 (pv 2)) (sds_cons (sd_var 5 (pv 5)) sds_nil))) sds_nil))).so) (pv 4))))
    (ss_cons (ss_append 4 ((sd_tup (sds_cons (sd_addG (sd_addG (sd_slice (sd_var 0 (pv 0)) spo_none (spo_some sd_int)) (sd_tup (sds_cons (sd_tup (sds_cons (sd_tup (sds_cons sd_int (sds_cons (sd_tup (sds_cons (sd_tup (sds_cons (sd_addG sd_str (sd_ixG (u1 hr.units) (sd_ixG (u1 hr.units) (sd_ixG (u1 hr.units) (sd_var 0 (pv 0)) sd_int) sd_int) sd_int)) (sds_cons sd_int sds_nil))) sds_nil)) sds_nil))) sds_nil)) sds_nil))) (sd_slice (sd_var 0 (pv 0)) (spo_some sd_int) spo_none)) (sds_cons (sd_var 1 (pv 1)) sds_nil))).so) (pv 4))
    (ss_cons (ss_append 4 ((sd_tup (sds_cons (sd_addG (sd_addG (sd_slice (sd_var 0 (pv 0)) spo_none (spo_some sd_int)) (sd_tup (sds_cons (sd_addG (sd_ixG (u1 hr.units) (sd_var 0 (pv 0)) sd_int) (sd_tup (sds_cons (sd_tup (sds_cons sd_str (sds_cons sd_str sds_nil))) sds_nil))) sds_nil))) (sd_slice (sd_var 0 (pv 0)) (spo_some sd_int) spo_none)) (sds_cons (sd_var 1 (pv 1)) sds_nil))).so) (pv 4))
    (ss_cons (ss_append 4 ((sd_tup (sds_cons (sd_addG (sd_addG (sd_slice (sd_var 0 (pv 0)) spo_none (spo_some sd_int)) (sd_tup (sds_cons (sd_slice (sd_ixG (u1 hr.units) (sd_var 0 (pv 0)) sd_int) spo_none (spo_some sd_int)) sds_nil))) (sd_slice (sd_var 0 (pv 0)) (spo_some sd_int) spo_none)) (sds_cons (sd_var 1 (pv 1)) sds_nil))).so) (pv 4))
    (ss_cons (ss_append 4 ((sd_tup (sds_cons (sd_addG (sd_addG (sd_slice (sd_var 0 (pv 0)) spo_none (spo_some sd_int)) (sd_tup (sds_cons (sd_addG (sd_ixG (u1 hr.units) (sd_var 0 (pv 0)) sd_int) (sd_tup (sds_cons sd_str sds_nil))) sds_nil))) (sd_slice (sd_var 0 (pv 0)) (spo_some sd_int) spo_none)) (sds_cons (sd_var 1 (pv 1)) sds_nil))).so) (pv 4))
    (ss_cons (ss_append 4 ((sd_tup (sds_cons (sd_addG (sd_addG (sd_slice (sd_var 0 (pv 0)) spo_none (spo_some sd_int)) (sd_tup (sds_cons (sd_tup sds_nil) sds_nil))) (sd_slice (sd_var 0 (pv 0)) (spo_some sd_int) spo_none)) (sds_cons (sd_var 1 (pv 1)) sds_nil))).so) (pv 4))
    (ss_one (ss_ret (so_move 4 (pv 4))))))))))))⟩
def c_u_law_faults : Fn := runDef 2 6 [] der_u_law_faults.1
theorem ok_u_law_faults {P : Program} {w : World} {K : PySem.W.Frag} {mg : Str → Option Value} {base : Heap} {cl : Cl} {A : Around} (B : Bnd K mg cl) (hr : Room 1 A) : Callee P w K mg base A cl "_law_faults" c_u_law_faults := by
  obtain ⟨f, fd, F, hm⟩ := B.f_u_law_faults.ex
  exact ⟨_, _, ["proc", "converter"], _, (def_ok F sc_u_law_faults rfl rfl (by decide) fun cdv A outer s H E hr => der_u_law_faults.2 P w K mg base cl B f cdv A outer s H E hr : FnOk P w K mg base CX0 1 f fd _ _), hr, hm, F.kp, (F.bindsN fun _ _ _ _ _ _ us hl => match us, hl with | [_, _], _ => rfl)⟩
/-! _law_ask -/
abbrev LN_u_law_ask : List Str := ["mark", "x"]
theorem sc_u_law_ask : FnScope ["mark", "x"] ["mark", "x"] (defScope s_u_law_ask) := ⟨rfl, rfl, rfl, by decide +kernel, rfl, by decide +kernel, by decide +kernel⟩
def der_u_law_ask : { g : MS // ∀ (P : Program) (w : World) (K : PySem.W.Frag) (mg : Str → Option Value) (base : Heap) (cl : Cl) (B : Bnd K mg cl) (f : Addr) (cdv : Value) (A : Around) (outer : List PySem.Env) (s : Shared) (H : Hp) (E : XK), Room 0 (A.deeper (PyProof.Rows.envOfC d_u_law_ask.qual d_u_law_ask.scope s.heap.objs.size f cdv)) →
    SSs (cxOf CX0 P w K mg base ["mark", "x"] d_u_law_ask.qual d_u_law_ask.scope f cdv A outer s H E).nox cl [] d_u_law_ask.body g } := ⟨_, fun P w K mg base cl B f cdv A outer s H E hr => by
  exact (ss_cons (ss_if (st_eq hr.units (sd_slice (sd_var 1 (pv 1)) spo_none (spo_some sd_int)) sd_str) (ss_one (ss_ret ((sd_addG (sd_var 0 (pv 0)) (sd_var 1 (pv 1))).so))) ss_nil)
    (ss_one (ss_ret ((sd_addG (sd_addG (sd_var 0 (pv 0)) sd_str) (sd_var 1 (pv 1))).so))))⟩
def c_u_law_ask : Fn := runDef 2 2 [] der_u_law_ask.1
theorem ok_u_law_ask {P : Program} {w : World} {K : PySem.W.Frag} {mg : Str → Option Value} {base : Heap} {cl : Cl} {A : Around} (B : Bnd K mg cl) (hr : Room 1 A) : Callee P w K mg base A cl "_law_ask" c_u_law_ask := by
  obtain ⟨f, fd, F, hm⟩ := B.f_u_law_ask.ex
  exact ⟨_, _, ["mark", "x"], _, (def_ok F sc_u_law_ask rfl rfl (by decide) fun cdv A outer s H E hr => der_u_law_ask.2 P w K mg base cl B f cdv A outer s H E hr : FnOk P w K mg base CX0 1 f fd _ _), hr, hm, F.kp, (F.bindsN fun _ _ _ _ _ _ us hl => match us, hl with | [_, _], _ => rfl)⟩
/-! _law_ask_form -/
abbrev LN_u_law_ask_form : List Str := ["mark", "x"]
theorem sc_u_law_ask_form : FnScope ["mark", "x"] ["mark", "x"] (defScope s_u_law_ask_form) := ⟨rfl, rfl, rfl, by decide +kernel, rfl, by decide +kernel, by decide +kernel⟩
def der_u_law_ask_form : { g : MS // ∀ (P : Program) (w : World) (K : PySem.W.Frag) (mg : Str → Option Value) (base : Heap) (cl : Cl) (B : Bnd K mg cl) (f : Addr) (cdv : Value) (A : Around) (outer : List PySem.Env) (s : Shared) (H : Hp) (E : XK), Room 2 (A.deeper (PyProof.Rows.envOfC d_u_law_ask_form.qual d_u_law_ask_form.scope s.heap.objs.size f cdv)) →
    SSs (cxOf CX0 P w K mg base ["mark", "x"] d_u_law_ask_form.qual d_u_law_ask_form.scope f cdv A outer s H E).nox cl [] d_u_law_ask_form.body g } := ⟨_, fun P w K mg base cl B f cdv A outer s H E hr => by
  have c_u_law_ask := ok_u_law_ask (P := P) (w := w) (base := base) B (hr.mono (by decide : 1 ≤ 2))
  exact (ss_one (ss_ret ((sd_tup (sds_cons sd_int (sds_cons (sd_tup (sds_cons (sd_tup (sds_cons (so_callD c_u_law_ask (sds_cons (sd_var 0 (pv 0)) (sds_cons (sd_var 1 (pv 1)) sds_nil))).sd (sds_cons sd_int sds_nil))) sds_nil)) sds_nil))).so)))⟩
def c_u_law_ask_form : Fn := runDef 2 2 [] der_u_law_ask_form.1
theorem ok_u_law_ask_form {P : Program} {w : World} {K : PySem.W.Frag} {mg : Str → Option Value} {base : Heap} {cl : Cl} {A : Around} (B : Bnd K mg cl) (hr : Room 3 A) : Callee P w K mg base A cl "_law_ask_form" c_u_law_ask_form := by
  obtain ⟨f, fd, F, hm⟩ := B.f_u_law_ask_form.ex
  exact ⟨_, _, ["mark", "x"], _, (def_ok F sc_u_law_ask_form rfl rfl (by decide) fun cdv A outer s H E hr => der_u_law_ask_form.2 P w K mg base cl B f cdv A outer s H E hr : FnOk P w K mg base CX0 3 f fd _ _), hr, hm, F.kp, (F.bindsN fun _ _ _ _ _ _ us hl => match us, hl with | [_, _], _ => rfl)⟩
/-! variable_of -/
abbrev LN_variable_of : List Str := ["item"]
theorem sc_variable_of : FnScope ["item"] ["item"] (defScope s_variable_of) := ⟨rfl, rfl, rfl, by decide +kernel, rfl, by decide +kernel, by decide +kernel⟩
def der_variable_of : { g : MS // ∀ (P : Program) (w : World) (K : PySem.W.Frag) (mg : Str → Option Value) (base : Heap) (cl : Cl) (B : Bnd K mg cl) (f : Addr) (cdv : Value) (A : Around) (outer : List PySem.Env) (s : Shared) (H : Hp) (E : XK), Room 0 (A.deeper (PyProof.Rows.envOfC d_variable_of.qual d_variable_of.scope s.heap.objs.size f cdv)) →
    SSs (cxOf CX0 P w K mg base ["item"] d_variable_of.qual d_variable_of.scope f cdv A outer s H E).nox cl [] d_variable_of.body g } := ⟨_, fun P w K mg base cl B f cdv A outer s H E hr => by
  exact (ss_cons (ss_if (st_eq hr.units (sd_ixG (u1 hr.units) (sd_var 0 (pv 0)) sd_int) sd_str) (ss_one (ss_ret ((sd_addG sd_str (sd_ixG (u1 hr.units) (sd_var 0 (pv 0)) sd_int)).so))) ss_nil)
    (ss_one (ss_ret ((sd_ixG (u1 hr.units) (sd_var 0 (pv 0)) sd_int).so))))⟩
def c_variable_of : Fn := runDef 1 1 [] der_variable_of.1
theorem ok_variable_of {P : Program} {w : World} {K : PySem.W.Frag} {mg : Str → Option Value} {base : Heap} {cl : Cl} {A : Around} (B : Bnd K mg cl) (hr : Room 1 A) : Callee P w K mg base A cl "variable_of" c_variable_of := by
  obtain ⟨f, fd, F, hm⟩ := B.f_variable_of.ex
  exact ⟨_, _, ["item"], _, (def_ok F sc_variable_of rfl rfl (by decide) fun cdv A outer s H E hr => der_variable_of.2 P w K mg base cl B f cdv A outer s H E hr : FnOk P w K mg base CX0 1 f fd _ _), hr, hm, F.kp, (F.bindsN fun _ _ _ _ _ _ us hl => match us, hl with | [_], _ => rfl)⟩
/-! inputs_of_proc -/
abbrev LN_inputs_of_proc : List Str := ["proc", "item"]
theorem sc_inputs_of_proc : FnScope ["proc", "item"] ["proc"] (defScope s_inputs_of_proc) := ⟨rfl, rfl, rfl, by decide +kernel, rfl, by decide +kernel, by decide +kernel⟩
def der_inputs_of_proc : { g : MS // ∀ (P : Program) (w : World) (K : PySem.W.Frag) (mg : Str → Option Value) (base : Heap) (cl : Cl) (B : Bnd K mg cl) (f : Addr) (cdv : Value) (A : Around) (outer : List PySem.Env) (s : Shared) (H : Hp) (E : XK), Room 2 (A.deeper (PyProof.Rows.envOfC d_inputs_of_proc.qual d_inputs_of_proc.scope s.heap.objs.size f cdv)) →
    SSs (cxOf CX0 P w K mg base ["proc", "item"] d_inputs_of_proc.qual d_inputs_of_proc.scope f cdv A outer s H E).nox cl [] d_inputs_of_proc.body g } := ⟨_, fun P w K mg base cl B f cdv A outer s H E hr => by
  have c_variable_of := ok_variable_of (P := P) (w := w) (base := base) B (hr.mono (by decide : 1 ≤ 2))
  exact (ss_one (ss_ret ((sd_tuple B.n_tuple (so_comp (own := [("item", 1)]) (si_seq (sd_ixG (u1 hr.units) (sd_var 0 (pv 0)) sd_int)) (blkOk_by (show blkC LN_inputs_of_proc d_inputs_of_proc.scope _ _ = true by decide +kernel)) (fun s H C cs fp => (sg_name 1 (pg_name sc_inputs_of_proc.nd (by rfl) (by first | exact Or.inl rfl | exact Or.inr rfl)))) (fun s H C cs fp => sts_nil) (fun s H C cs fp => (sd_addG sd_str (so_callD c_variable_of (sds_cons (sd_var 1 (pv 1)) sds_nil)).sd)) sc_inputs_of_proc.nd).sd).so)))⟩
def c_inputs_of_proc : Fn := runDef 1 2 [] der_inputs_of_proc.1
theorem ok_inputs_of_proc {P : Program} {w : World} {K : PySem.W.Frag} {mg : Str → Option Value} {base : Heap} {cl : Cl} {A : Around} (B : Bnd K mg cl) (hr : Room 3 A) : Callee P w K mg base A cl "inputs_of_proc" c_inputs_of_proc := by
  obtain ⟨f, fd, F, hm⟩ := B.f_inputs_of_proc.ex
  exact ⟨_, _, ["proc"], _, (def_ok F sc_inputs_of_proc rfl rfl (by decide) fun cdv A outer s H E hr => der_inputs_of_proc.2 P w K mg base cl B f cdv A outer s H E hr : FnOk P w K mg base CX0 3 f fd _ _), hr, hm, F.kp, (F.bindsN fun _ _ _ _ _ _ us hl => match us, hl with | [_], _ => rfl)⟩
/-! proc_named -/
abbrev LN_proc_named : List Str := ["core", "name", "proc"]
theorem sc_proc_named : FnScope ["core", "name", "proc"] ["core", "name"] (defScope s_proc_named) := ⟨rfl, rfl, rfl, by decide +kernel, rfl, by decide +kernel, by decide +kernel⟩
def der_proc_named : { g : MS // ∀ (P : Program) (w : World) (K : PySem.W.Frag) (mg : Str → Option Value) (base : Heap) (cl : Cl) (B : Bnd K mg cl) (f : Addr) (cdv : Value) (A : Around) (outer : List PySem.Env) (s : Shared) (H : Hp) (E : XK), Room 0 (A.deeper (PyProof.Rows.envOfC d_proc_named.qual d_proc_named.scope s.heap.objs.size f cdv)) →
    SSs (cxOf CX0 P w K mg base ["core", "name", "proc"] d_proc_named.qual d_proc_named.scope f cdv A outer s H E).nox cl [] d_proc_named.body g } := ⟨_, fun P w K mg base cl B f cdv A outer s H E hr => by
  exact (ss_one (ss_ret ((sd_ixG (u1 hr.units) (so_comp (own := [("proc", 2)]) (si_seq (sd_var 0 (pv 0))) (blkOk_by (show blkC LN_proc_named d_proc_named.scope _ _ = true by decide +kernel)) (fun s H C cs fp => (sg_name 2 (pg_name sc_proc_named.nd (by rfl) (by first | exact Or.inl rfl | exact Or.inr rfl)))) (fun s H C cs fp => (sts_one (st_eq hr.units (sd_ixG (u1 hr.units) (sd_var 2 (pv 2)) sd_int) (sd_var 1 (pv 1))))) (fun s H C cs fp => (sd_var 2 (pv 2))) sc_proc_named.nd).sd sd_int).so)))⟩
def c_proc_named : Fn := runDef 2 3 [] der_proc_named.1
theorem ok_proc_named {P : Program} {w : World} {K : PySem.W.Frag} {mg : Str → Option Value} {base : Heap} {cl : Cl} {A : Around} (B : Bnd K mg cl) (hr : Room 1 A) : Callee P w K mg base A cl "proc_named" c_proc_named := by
  obtain ⟨f, fd, F, hm⟩ := B.f_proc_named.ex
  exact ⟨_, _, ["core", "name"], _, (def_ok F sc_proc_named rfl rfl (by decide) fun cdv A outer s H E hr => der_proc_named.2 P w K mg base cl B f cdv A outer s H E hr : FnOk P w K mg base CX0 1 f fd _ _), hr, hm, F.kp, (F.bindsN fun _ _ _ _ _ _ us hl => match us, hl with | [_, _], _ => rfl)⟩
/-! inputs_of -/
abbrev LN_inputs_of : List Str := ["core", "name"]
theorem sc_inputs_of : FnScope ["core", "name"] ["core", "name"] (defScope s_inputs_of) := ⟨rfl, rfl, rfl, by decide +kernel, rfl, by decide +kernel, by decide +kernel⟩
def der_inputs_of : { g : MS // ∀ (P : Program) (w : World) (K : PySem.W.Frag) (mg : Str → Option Value) (base : Heap) (cl : Cl) (B : Bnd K mg cl) (f : Addr) (cdv : Value) (A : Around) (outer : List PySem.Env) (s : Shared) (H : Hp) (E : XK), Room 4 (A.deeper (PyProof.Rows.envOfC d_inputs_of.qual d_inputs_of.scope s.heap.objs.size f cdv)) →
    SSs (cxOf CX0 P w K mg base ["core", "name"] d_inputs_of.qual d_inputs_of.scope f cdv A outer s H E).nox cl [] d_inputs_of.body g } := ⟨_, fun P w K mg base cl B f cdv A outer s H E hr => by
  have c_inputs_of_proc := ok_inputs_of_proc (P := P) (w := w) (base := base) B (hr.mono (by decide : 3 ≤ 4))
  have c_proc_named := ok_proc_named (P := P) (w := w) (base := base) B (hr.mono (by decide : 1 ≤ 4))
  exact (ss_one (ss_ret (so_callD c_inputs_of_proc (sds_cons (so_callD c_proc_named (sds_cons (sd_var 0 (pv 0)) (sds_cons (sd_var 1 (pv 1)) sds_nil))).sd sds_nil))))⟩
def c_inputs_of : Fn := runDef 2 2 [] der_inputs_of.1
theorem ok_inputs_of {P : Program} {w : World} {K : PySem.W.Frag} {mg : Str → Option Value} {base : Heap} {cl : Cl} {A : Around} (B : Bnd K mg cl) (hr : Room 5 A) : Callee P w K mg base A cl "inputs_of" c_inputs_of := by
  obtain ⟨f, fd, F, hm⟩ := B.f_inputs_of.ex
  exact ⟨_, _, ["core", "name"], _, (def_ok F sc_inputs_of rfl rfl (by decide) fun cdv A outer s H E hr => der_inputs_of.2 P w K mg base cl B f cdv A outer s H E hr : FnOk P w K mg base CX0 5 f fd _ _), hr, hm, F.kp, (F.bindsN fun _ _ _ _ _ _ us hl => match us, hl with | [_, _], _ => rfl)⟩
/-! form -/
abbrev LN_form : List Str := ["constant", "pairs", "sums", "name", "coefficient"]
theorem sc_form : FnScope ["constant", "pairs", "sums", "name", "coefficient"] ["constant", "pairs"] (defScope s_form) := ⟨rfl, rfl, rfl, by decide +kernel, rfl, by decide +kernel, by decide +kernel⟩
def der_form : { g : MS // ∀ (P : Program) (w : World) (K : PySem.W.Frag) (mg : Str → Option Value) (base : Heap) (cl : Cl) (B : Bnd K mg cl) (f : Addr) (cdv : Value) (A : Around) (outer : List PySem.Env) (s : Shared) (H : Hp) (E : XK), Room 0 (A.deeper (PyProof.Rows.envOfC d_form.qual d_form.scope s.heap.objs.size f cdv)) →
    SSs (cxOf CX0 P w K mg base ["constant", "pairs", "sums", "name", "coefficient"] d_form.qual d_form.scope f cdv A outer s H E).nox cl [1] d_form.body g } := ⟨_, fun P w K mg base cl B f cdv A outer s H E hr => by
  exact (ss_cons (ss_set 2 so_empty sc_form.nd)
    (ss_cons (ss_for (si_seq (sd_take 1 (pv 1))) (sg_tup (n := 2) (sgs_cons (sg_name 3 (pg_name sc_form.nd (by rfl) (by first | exact Or.inl rfl | exact Or.inr rfl))) (sgs_cons (sg_name 4 (pg_name sc_form.nd (by rfl) (by first | exact Or.inl rfl | exact Or.inr rfl))) sgs_nil))) (ss_one (ss_put 2 (u1 hr.units) (sd_addG ((sd_get (u1 hr.units) (sd_var 2 (pv 2)) (sd_var 3 (pv 3)) sd_int).peek) (sd_var 4 (pv 4))) (pv 2) (sd_var 3 (pv 3)))))
    (ss_one (ss_ret ((sd_tup (sds_cons (sd_var 0 (pv 0)) (sds_cons (sd_tuple B.n_tuple (so_comp (own := [("name", 3)]) (si_seq (sd_sorted B.n_sorted (sd_take 2 (pv 2)))) (blkOk_by (show blkC LN_form d_form.scope _ _ = true by decide +kernel)) (fun s H C cs fp => (sg_name 3 (pg_name sc_form.nd (by rfl) (by first | exact Or.inl rfl | exact Or.inr rfl)))) (fun s H C cs fp => (sts_one ((st_ne hr.units (sd_ixG (u1 hr.units) (sd_var 2 (pv 2)) (sd_var 3 (pv 3))) sd_int).peek))) (fun s H C cs fp => (sd_tup (sds_cons (sd_var 3 (pv 3)) (sds_cons ((sd_ixG (u1 hr.units) (sd_var 2 (pv 2)) (sd_var 3 (pv 3))).peek) sds_nil)))) sc_form.nd).sd) sds_nil))).so)))))⟩
def c_form : Fn := runDef 2 5 [1] der_form.1
theorem ok_form {P : Program} {w : World} {K : PySem.W.Frag} {mg : Str → Option Value} {base : Heap} {cl : Cl} {A : Around} (B : Bnd K mg cl) (hr : Room 1 A) : Callee P w K mg base A cl "form" c_form := by
  obtain ⟨f, fd, F, hm⟩ := B.f_form.ex
  exact ⟨_, _, ["constant", "pairs"], _, (def_ok F sc_form rfl rfl (by decide) fun cdv A outer s H E hr => der_form.2 P w K mg base cl B f cdv A outer s H E hr : FnOk P w K mg base CX0 1 f fd _ _), hr, hm, F.kp, (F.bindsN fun _ _ _ _ _ _ us hl => match us, hl with | [_, _], _ => rfl)⟩
/-! image -/
abbrev LN_image : List Str := ["f", "pairs", "table", "constant", "rest", "name", "coefficient", "g", "other", "factor"]
theorem sc_image : FnScope ["f", "pairs", "table", "constant", "rest", "name", "coefficient", "g", "other", "factor"] ["f", "pairs"] (defScope s_image) := ⟨rfl, rfl, rfl, by decide +kernel, rfl, by decide +kernel, by decide +kernel⟩
def der_image : { g : MS // ∀ (P : Program) (w : World) (K : PySem.W.Frag) (mg : Str → Option Value) (base : Heap) (cl : Cl) (B : Bnd K mg cl) (f : Addr) (cdv : Value) (A : Around) (outer : List PySem.Env) (s : Shared) (H : Hp) (E : XK), Room 2 (A.deeper (PyProof.Rows.envOfC d_image.qual d_image.scope s.heap.objs.size f cdv)) →
    SSs (cxOf CX0 P w K mg base ["f", "pairs", "table", "constant", "rest", "name", "coefficient", "g", "other", "factor"] d_image.qual d_image.scope f cdv A outer s H E).nox cl [] d_image.body g } := ⟨_, fun P w K mg base cl B f cdv A outer s H E hr => by
  have c_form := ok_form (P := P) (w := w) (base := base) B (hr.mono (by decide : 1 ≤ 2))
  exact (ss_cons (SS.fz (ss_setDc 2 (own := [("name", 5), ("g", 7)]) (si_seq (sd_var 1 (pv 1))) (blkOk_by (show blkC LN_image d_image.scope _ _ = true by decide +kernel)) (fun s H C cs fp => (sg_tup (n := 2) (sgs_cons (sg_name 5 (pg_name sc_image.nd (by rfl) (by first | exact Or.inl rfl | exact Or.inr rfl))) (sgs_cons (sg_name 7 (pg_name sc_image.nd (by rfl) (by first | exact Or.inl rfl | exact Or.inr rfl))) sgs_nil)))) (fun s H C cs fp => sts_nil) (fun s H C cs fp => (sd_var 5 (pv 5))) (fun s H C cs fp => (sd_var 7 (pv 7))) sc_image.nd))
    (ss_cons (ss_set 3 ((sd_ixG (u1 hr.units) (sd_var 0 (pv 0)) sd_int).so) sc_image.nd)
    (ss_cons (ss_set 4 (so_lst sds_nil) sc_image.nd)
    (ss_cons (ss_for (si_seq (sd_ixG (u1 hr.units) (sd_var 0 (pv 0)) sd_int)) (sg_tup (n := 2) (sgs_cons (sg_name 5 (pg_name sc_image.nd (by rfl) (by first | exact Or.inl rfl | exact Or.inr rfl))) (sgs_cons (sg_name 6 (pg_name sc_image.nd (by rfl) (by first | exact Or.inl rfl | exact Or.inr rfl))) sgs_nil))) (ss_one (ss_if (st_in (u1 hr.units) (sd_var 5 (pv 5)) (sd_var 2 (pv 2))) (ss_cons (ss_set 7 ((sd_ixG (u1 hr.units) (sd_var 2 (pv 2)) (sd_var 5 (pv 5))).so) sc_image.nd)
    (ss_cons (ss_aug 3 (sd_mulG (sd_var 6 (pv 6)) (sd_ixG (u1 hr.units) (sd_var 7 (pv 7)) sd_int)) sc_image.nd)
    (ss_one (ss_extend 4 (so_comp (own := [("other", 8), ("factor", 9)]) (si_seq (sd_ixG (u1 hr.units) (sd_var 7 (pv 7)) sd_int)) (blkOk_by (show blkC LN_image d_image.scope _ _ = true by decide +kernel)) (fun s H C cs fp => (sg_tup (n := 2) (sgs_cons (sg_name 8 (pg_name sc_image.nd (by rfl) (by first | exact Or.inl rfl | exact Or.inr rfl))) (sgs_cons (sg_name 9 (pg_name sc_image.nd (by rfl) (by first | exact Or.inl rfl | exact Or.inr rfl))) sgs_nil)))) (fun s H C cs fp => sts_nil) (fun s H C cs fp => (sd_tup (sds_cons (sd_var 8 (pv 8)) (sds_cons (sd_mulG (sd_var 6 (pv 6)) (sd_var 9 (pv 9))) sds_nil)))) sc_image.nd).sd (pv 4))))) (ss_one (ss_append 4 ((sd_tup (sds_cons (sd_var 5 (pv 5)) (sds_cons (sd_var 6 (pv 6)) sds_nil))).so) (pv 4))))))
    (ss_one (ss_ret (so_call c_form (by decide) (sa_cons ((sd_var 3 (pv 3)).so) (sa_lend 4 (pv 4) sa_nil)))))))))⟩
def c_image : Fn := runDef 2 10 [] der_image.1
theorem ok_image {P : Program} {w : World} {K : PySem.W.Frag} {mg : Str → Option Value} {base : Heap} {cl : Cl} {A : Around} (B : Bnd K mg cl) (hr : Room 3 A) : Callee P w K mg base A cl "image" c_image := by
  obtain ⟨f, fd, F, hm⟩ := B.f_image.ex
  exact ⟨_, _, ["f", "pairs"], _, (def_ok F sc_image rfl rfl (by decide) fun cdv A outer s H E hr => der_image.2 P w K mg base cl B f cdv A outer s H E hr : FnOk P w K mg base CX0 3 f fd _ _), hr, hm, F.kp, (F.bindsN fun _ _ _ _ _ _ us hl => match us, hl with | [_, _], _ => rfl)⟩
/-! _law_marked -/
abbrev LN_u_law_marked : List Str := ["mark", "f", "x", "number"]
theorem sc_u_law_marked : FnScope ["mark", "f", "x", "number"] ["mark", "f"] (defScope s_u_law_marked) := ⟨rfl, rfl, rfl, by decide +kernel, rfl, by decide +kernel, by decide +kernel⟩
def der_u_law_marked : { g : MS // ∀ (P : Program) (w : World) (K : PySem.W.Frag) (mg : Str → Option Value) (base : Heap) (cl : Cl) (B : Bnd K mg cl) (f : Addr) (cdv : Value) (A : Around) (outer : List PySem.Env) (s : Shared) (H : Hp) (E : XK), Room 0 (A.deeper (PyProof.Rows.envOfC d_u_law_marked.qual d_u_law_marked.scope s.heap.objs.size f cdv)) →
    SSs (cxOf CX0 P w K mg base ["mark", "f", "x", "number"] d_u_law_marked.qual d_u_law_marked.scope f cdv A outer s H E).nox cl [] d_u_law_marked.body g } := ⟨_, fun P w K mg base cl B f cdv A outer s H E hr => by
  exact (ss_one (ss_ret ((sd_tup (sds_cons (sd_ixG (u1 hr.units) (sd_var 1 (pv 1)) sd_int) (sds_cons (sd_tuple B.n_tuple (so_comp (own := [("x", 2), ("number", 3)]) (si_seq (sd_ixG (u1 hr.units) (sd_var 1 (pv 1)) sd_int)) (blkOk_by (show blkC LN_u_law_marked d_u_law_marked.scope _ _ = true by decide +kernel)) (fun s H C cs fp => (sg_tup (n := 2) (sgs_cons (sg_name 2 (pg_name sc_u_law_marked.nd (by rfl) (by first | exact Or.inl rfl | exact Or.inr rfl))) (sgs_cons (sg_name 3 (pg_name sc_u_law_marked.nd (by rfl) (by first | exact Or.inl rfl | exact Or.inr rfl))) sgs_nil)))) (fun s H C cs fp => sts_nil) (fun s H C cs fp => (sd_tup (sds_cons (sd_addG (sd_var 0 (pv 0)) (sd_var 2 (pv 2))) (sds_cons (sd_var 3 (pv 3)) sds_nil)))) sc_u_law_marked.nd).sd) sds_nil))).so)))⟩
def c_u_law_marked : Fn := runDef 2 4 [] der_u_law_marked.1
theorem ok_u_law_marked {P : Program} {w : World} {K : PySem.W.Frag} {mg : Str → Option Value} {base : Heap} {cl : Cl} {A : Around} (B : Bnd K mg cl) (hr : Room 1 A) : Callee P w K mg base A cl "_law_marked" c_u_law_marked := by
  obtain ⟨f, fd, F, hm⟩ := B.f_u_law_marked.ex
  exact ⟨_, _, ["mark", "f"], _, (def_ok F sc_u_law_marked rfl rfl (by decide) fun cdv A outer s H E hr => der_u_law_marked.2 P w K mg base cl B f cdv A outer s H E hr : FnOk P w K mg base CX0 1 f fd _ _), hr, hm, F.kp, (F.bindsN fun _ _ _ _ _ _ us hl => match us, hl with | [_, _], _ => rfl)⟩
/-! moving_items -/
abbrev LN_moving_items : List Str := ["proc", "moving", "item"]
theorem sc_moving_items : FnScope ["proc", "moving", "item"] ["proc", "moving"] (defScope s_moving_items) := ⟨rfl, rfl, rfl, by decide +kernel, rfl, by decide +kernel, by decide +kernel⟩
def der_moving_items : { g : MS // ∀ (P : Program) (w : World) (K : PySem.W.Frag) (mg : Str → Option Value) (base : Heap) (cl : Cl) (B : Bnd K mg cl) (f : Addr) (cdv : Value) (A : Around) (outer : List PySem.Env) (s : Shared) (H : Hp) (E : XK), Room 2 (A.deeper (PyProof.Rows.envOfC d_moving_items.qual d_moving_items.scope s.heap.objs.size f cdv)) →
    SSs (cxOf CX0 P w K mg base ["proc", "moving", "item"] d_moving_items.qual d_moving_items.scope f cdv A outer s H E).nox cl [] d_moving_items.body g } := ⟨_, fun P w K mg base cl B f cdv A outer s H E hr => by
  have c_variable_of := ok_variable_of (P := P) (w := w) (base := base) B (hr.mono (by decide : 1 ≤ 2))
  exact (ss_one (ss_ret (so_comp (own := [("item", 2)]) (si_seq (sd_ixG (u1 hr.units) (sd_var 0 (pv 0)) sd_int)) (blkOk_by (show blkC LN_moving_items d_moving_items.scope _ _ = true by decide +kernel)) (fun s H C cs fp => (sg_name 2 (pg_name sc_moving_items.nd (by rfl) (by first | exact Or.inl rfl | exact Or.inr rfl)))) (fun s H C cs fp => (sts_one (st_in (u1 hr.units) (so_callD c_variable_of (sds_cons (sd_var 2 (pv 2)) sds_nil)).sd (sd_ixG (u1 hr.units) (sd_var 1 (pv 1)) (sd_ixG (u1 hr.units) (sd_var 0 (pv 0)) sd_int))))) (fun s H C cs fp => (sd_var 2 (pv 2))) sc_moving_items.nd)))⟩
def c_moving_items : Fn := runDef 2 3 [] der_moving_items.1
theorem ok_moving_items {P : Program} {w : World} {K : PySem.W.Frag} {mg : Str → Option Value} {base : Heap} {cl : Cl} {A : Around} (B : Bnd K mg cl) (hr : Room 3 A) : Callee P w K mg base A cl "moving_items" c_moving_items := by
  obtain ⟨f, fd, F, hm⟩ := B.f_moving_items.ex
  exact ⟨_, _, ["proc", "moving"], _, (def_ok F sc_moving_items rfl rfl (by decide) fun cdv A outer s H E hr => der_moving_items.2 P w K mg base cl B f cdv A outer s H E hr : FnOk P w K mg base CX0 3 f fd _ _), hr, hm, F.kp, (F.bindsN fun _ _ _ _ _ _ us hl => match us, hl with | [_, _], _ => rfl)⟩
/-! outcomes_of_proc -/
abbrev LN_outcomes_of_proc : List Str := ["proc", "moving", "arrays", "item"]
theorem sc_outcomes_of_proc : FnScope ["proc", "moving", "arrays", "item"] ["proc", "moving"] (defScope s_outcomes_of_proc) := ⟨rfl, rfl, rfl, by decide +kernel, rfl, by decide +kernel, by decide +kernel⟩
def der_outcomes_of_proc : { g : MS // ∀ (P : Program) (w : World) (K : PySem.W.Frag) (mg : Str → Option Value) (base : Heap) (cl : Cl) (B : Bnd K mg cl) (f : Addr) (cdv : Value) (A : Around) (outer : List PySem.Env) (s : Shared) (H : Hp) (E : XK), Room 4 (A.deeper (PyProof.Rows.envOfC d_outcomes_of_proc.qual d_outcomes_of_proc.scope s.heap.objs.size f cdv)) →
    SSs (cxOf CX0 P w K mg base ["proc", "moving", "arrays", "item"] d_outcomes_of_proc.qual d_outcomes_of_proc.scope f cdv A outer s H E).nox cl [] d_outcomes_of_proc.body g } := ⟨_, fun P w K mg base cl B f cdv A outer s H E hr => by
  have c_moving_items := ok_moving_items (P := P) (w := w) (base := base) B (hr.mono (by decide : 3 ≤ 4))
  have c_variable_of := ok_variable_of (P := P) (w := w) (base := base) B (hr.mono (by decide : 1 ≤ 4))
  exact (ss_cons (SS.fz (ss_setComp 2 (own := [("item", 3)]) (si_seq (so_callD c_moving_items (sds_cons (sd_var 0 (pv 0)) (sds_cons (sd_var 1 (pv 1)) sds_nil))).sd) (blkOk_by (show blkC LN_outcomes_of_proc d_outcomes_of_proc.scope _ _ = true by decide +kernel)) (fun s H C cs fp => (sg_name 3 (pg_name sc_outcomes_of_proc.nd (by rfl) (by first | exact Or.inl rfl | exact Or.inr rfl)))) (fun s H C cs fp => (sts_one (st_eq hr.units (sd_ixG (u1 hr.units) (sd_var 3 (pv 3)) sd_int) sd_str))) (fun s H C cs fp => (so_callD c_variable_of (sds_cons (sd_var 3 (pv 3)) sds_nil)).sd) sc_outcomes_of_proc.nd))
    (ss_one (ss_ret ((sd_addG (sd_ixG (u1 hr.units) (sd_var 0 (pv 0)) sd_int) (sd_tuple B.n_tuple (sd_var 2 (pv 2)))).so))))⟩
def c_outcomes_of_proc : Fn := runDef 2 4 [] der_outcomes_of_proc.1
theorem ok_outcomes_of_proc {P : Program} {w : World} {K : PySem.W.Frag} {mg : Str → Option Value} {base : Heap} {cl : Cl} {A : Around} (B : Bnd K mg cl) (hr : Room 5 A) : Callee P w K mg base A cl "outcomes_of_proc" c_outcomes_of_proc := by
  obtain ⟨f, fd, F, hm⟩ := B.f_outcomes_of_proc.ex
  exact ⟨_, _, ["proc", "moving"], _, (def_ok F sc_outcomes_of_proc rfl rfl (by decide) fun cdv A outer s H E hr => der_outcomes_of_proc.2 P w K mg base cl B f cdv A outer s H E hr : FnOk P w K mg base CX0 5 f fd _ _), hr, hm, F.kp, (F.bindsN fun _ _ _ _ _ _ us hl => match us, hl with | [_, _], _ => rfl)⟩
/-! statements_in -/
abbrev LN_statements_in : List Str := ["body", "found", "statement", "block"]
theorem sc_statements_in : FnScope ["body", "found", "statement", "block"] ["body"] (defScope s_statements_in) := ⟨rfl, rfl, rfl, by decide +kernel, rfl, by decide +kernel, by decide +kernel⟩
def der_statements_in (self : Fn) : { g : MS // ∀ (P : Program) (w : World) (K : PySem.W.Frag) (mg : Str → Option Value) (base : Heap) (cl : Cl) (B : Bnd K mg cl) (f : Addr) (cdv : Value) (A : Around) (outer : List PySem.Env) (s : Shared) (H : Hp) (E : XK), Room 0 (A.deeper (PyProof.Rows.envOfC d_statements_in.qual d_statements_in.scope s.heap.objs.size f cdv)) → Callee P w K mg base (A.deeper (PyProof.Rows.envOfC d_statements_in.qual d_statements_in.scope s.heap.objs.size f cdv)) cl "statements_in" self →
    SSs (cxOf CX0 P w K mg base ["body", "found", "statement", "block"] d_statements_in.qual d_statements_in.scope f cdv A outer s H E).nox cl [] d_statements_in.body g } := ⟨_, fun P w K mg base cl B f cdv A outer s H E hr c_self => by
  exact (ss_cons (ss_set 1 (so_lst sds_nil) sc_statements_in.nd)
    (ss_cons (ss_for (si_seq (sd_var 0 (pv 0))) (sg_name 2 (pg_name sc_statements_in.nd (by rfl) (by first | exact Or.inl rfl | exact Or.inr rfl))) (ss_cons (ss_append 1 ((sd_var 2 (pv 2)).so) (pv 1))
    (ss_one (ss_if (st_in (u1 hr.units) (sd_ixG (u1 hr.units) (sd_var 2 (pv 2)) sd_int) (sd_tup (sds_cons sd_str (sds_cons sd_str sds_nil)))) (ss_one (ss_for (si_seq (sd_slice (sd_var 2 (pv 2)) (spo_some sd_int) spo_none)) (sg_name 3 (pg_name sc_statements_in.nd (by rfl) (by first | exact Or.inl rfl | exact Or.inr rfl))) (ss_one (ss_extend 1 (so_callD c_self (sds_cons (sd_var 3 (pv 3)) sds_nil)).sd (pv 1))))) ss_nil))))
    (ss_one (ss_ret (so_move 1 (pv 1))))))⟩
def r_statements_in : Nat → Fn
  | 0 => runDef 1 4 [] (fun _ => none)
  | n + 1 => runDef 1 4 [] (der_statements_in (r_statements_in n)).1
theorem okr_statements_in {P : Program} {w : World} {K : PySem.W.Frag} {mg : Str → Option Value} {base : Heap} {cl : Cl} (B : Bnd K mg cl) : ∀ (n : Nat) {A : Around}, Room (1 + n) A → Callee P w K mg base A cl "statements_in" (r_statements_in n)
  | 0, A, hr => by
    obtain ⟨f, fd, F, hm⟩ := B.f_statements_in.ex
    exact ⟨_, _, ["body"], _, (def_ok F sc_statements_in rfl rfl (by decide) fun cdv A outer s H E hr => sss_dead : FnOk P w K mg base CX0 1 f fd _ _), hr, hm, F.kp, (F.bindsN fun _ _ _ _ _ _ us hl => match us, hl with | [_], _ => rfl)⟩
  | n + 1, A, hr => by
    obtain ⟨f, fd, F, hm⟩ := B.f_statements_in.ex
    exact ⟨_, _, ["body"], _, (def_ok F sc_statements_in rfl rfl (by decide) fun cdv A outer s H E hr => (der_statements_in (r_statements_in n)).2 P w K mg base cl B f cdv A outer s H E (hr.mono (by omega)) (okr_statements_in B n hr) : FnOk P w K mg base CX0 (1 + n + 1) f fd _ _), hr, hm, F.kp, (F.bindsN fun _ _ _ _ _ _ us hl => match us, hl with | [_], _ => rfl)⟩
def c_statements_in : Fn := r_statements_in 12
theorem ok_statements_in {P : Program} {w : World} {K : PySem.W.Frag} {mg : Str → Option Value} {base : Heap} {cl : Cl} {A : Around} (B : Bnd K mg cl) (hr : Room 13 A) : Callee P w K mg base A cl "statements_in" c_statements_in := okr_statements_in B 12 hr
/-! assigned_in -/
abbrev LN_assigned_in : List Str := ["proc", "found", "statement", "x", "expression"]
theorem sc_assigned_in : FnScope ["proc", "found", "statement", "x", "expression"] ["proc"] (defScope s_assigned_in) := ⟨rfl, rfl, rfl, by decide +kernel, rfl, by decide +kernel, by decide +kernel⟩
def der_assigned_in : { g : MS // ∀ (P : Program) (w : World) (K : PySem.W.Frag) (mg : Str → Option Value) (base : Heap) (cl : Cl) (B : Bnd K mg cl) (f : Addr) (cdv : Value) (A : Around) (outer : List PySem.Env) (s : Shared) (H : Hp) (E : XK), Room 14 (A.deeper (PyProof.Rows.envOfC d_assigned_in.qual d_assigned_in.scope s.heap.objs.size f cdv)) →
    SSs (cxOf CX0 P w K mg base ["proc", "found", "statement", "x", "expression"] d_assigned_in.qual d_assigned_in.scope f cdv A outer s H E).nox cl [] d_assigned_in.body g } := ⟨_, fun P w K mg base cl B f cdv A outer s H E hr => by
  have c_statements_in := ok_statements_in (P := P) (w := w) (base := base) B (hr.mono (by decide : 13 ≤ 14))
  exact (ss_cons (ss_set 1 (so_lst sds_nil) sc_assigned_in.nd)
    (ss_cons (ss_for (si_seq (so_callD c_statements_in (sds_cons (sd_ixG (u1 hr.units) (sd_var 0 (pv 0)) sd_int) sds_nil)).sd) (sg_name 2 (pg_name sc_assigned_in.nd (by rfl) (by first | exact Or.inl rfl | exact Or.inr rfl))) (ss_one (ss_if (st_eq hr.units (sd_ixG (u1 hr.units) (sd_var 2 (pv 2)) sd_int) sd_str) (ss_one (ss_extend 1 (so_comp (own := [("x", 3), ("expression", 4)]) (si_seq (sd_ixG (u1 hr.units) (sd_var 2 (pv 2)) sd_int)) (blkOk_by (show blkC LN_assigned_in d_assigned_in.scope _ _ = true by decide +kernel)) (fun s H C cs fp => (sg_tup (n := 2) (sgs_cons (sg_name 3 (pg_name sc_assigned_in.nd (by rfl) (by first | exact Or.inl rfl | exact Or.inr rfl))) (sgs_cons (sg_name 4 (pg_name sc_assigned_in.nd (by rfl) (by first | exact Or.inl rfl | exact Or.inr rfl))) sgs_nil)))) (fun s H C cs fp => sts_nil) (fun s H C cs fp => (sd_var 3 (pv 3))) sc_assigned_in.nd).sd (pv 1))) (ss_one (ss_if (st_eq hr.units (sd_ixG (u1 hr.units) (sd_var 2 (pv 2)) sd_int) sd_str) (ss_one (ss_extend 1 (so_lst (sds_cons (sd_ixG (u1 hr.units) (sd_var 2 (pv 2)) sd_int) (sds_cons (sd_addG sd_str (sd_ixG (u1 hr.units) (sd_var 2 (pv 2)) sd_int)) sds_nil))).sd (pv 1))) (ss_one (ss_if (st_eq hr.units (sd_ixG (u1 hr.units) (sd_var 2 (pv 2)) sd_int) sd_str) (ss_one (ss_append 1 ((sd_addG sd_str (sd_ixG (u1 hr.units) (sd_var 2 (pv 2)) sd_int)).so) (pv 1))) (ss_one (ss_if (st_eq hr.units (sd_ixG (u1 hr.units) (sd_var 2 (pv 2)) sd_int) sd_str) (ss_one (ss_extend 1 (sd_ixG (u1 hr.units) (sd_var 2 (pv 2)) sd_int) (pv 1))) ss_nil)))))))))
    (ss_one (ss_ret (so_move 1 (pv 1))))))⟩
def c_assigned_in : Fn := runDef 1 5 [] der_assigned_in.1
theorem ok_assigned_in {P : Program} {w : World} {K : PySem.W.Frag} {mg : Str → Option Value} {base : Heap} {cl : Cl} {A : Around} (B : Bnd K mg cl) (hr : Room 15 A) : Callee P w K mg base A cl "assigned_in" c_assigned_in := by
  obtain ⟨f, fd, F, hm⟩ := B.f_assigned_in.ex
  exact ⟨_, _, ["proc"], _, (def_ok F sc_assigned_in rfl rfl (by decide) fun cdv A outer s H E hr => der_assigned_in.2 P w K mg base cl B f cdv A outer s H E hr : FnOk P w K mg base CX0 15 f fd _ _), hr, hm, F.kp, (F.bindsN fun _ _ _ _ _ _ us hl => match us, hl with | [_], _ => rfl)⟩
/-! passed_on -/
abbrev LN_passed_on : List Str := ["core", "moving", "proc", "found", "statement", "parameters", "parameter", "argument"]
theorem sc_passed_on : FnScope ["core", "moving", "proc", "found", "statement", "parameters", "parameter", "argument"] ["core", "moving", "proc"] (defScope s_passed_on) := ⟨rfl, rfl, rfl, by decide +kernel, rfl, by decide +kernel, by decide +kernel⟩
def der_passed_on : { g : MS // ∀ (P : Program) (w : World) (K : PySem.W.Frag) (mg : Str → Option Value) (base : Heap) (cl : Cl) (B : Bnd K mg cl) (f : Addr) (cdv : Value) (A : Around) (outer : List PySem.Env) (s : Shared) (H : Hp) (E : XK), Room 14 (A.deeper (PyProof.Rows.envOfC d_passed_on.qual d_passed_on.scope s.heap.objs.size f cdv)) →
    SSs (cxOf CX0 P w K mg base ["core", "moving", "proc", "found", "statement", "parameters", "parameter", "argument"] d_passed_on.qual d_passed_on.scope f cdv A outer s H E).nox cl [] d_passed_on.body g } := ⟨_, fun P w K mg base cl B f cdv A outer s H E hr => by
  have c_statements_in := ok_statements_in (P := P) (w := w) (base := base) B (hr.mono (by decide : 13 ≤ 14))
  have c_proc_named := ok_proc_named (P := P) (w := w) (base := base) B (hr.mono (by decide : 1 ≤ 14))
  exact (ss_cons (ss_set 3 (so_lst sds_nil) sc_passed_on.nd)
    (ss_cons (ss_for (si_seq (so_callD c_statements_in (sds_cons (sd_ixG (u1 hr.units) (sd_var 2 (pv 2)) sd_int) sds_nil)).sd) (sg_name 4 (pg_name sc_passed_on.nd (by rfl) (by first | exact Or.inl rfl | exact Or.inr rfl))) (ss_one (ss_if (st_eq hr.units (sd_ixG (u1 hr.units) (sd_var 4 (pv 4)) sd_int) sd_str) (ss_cons (ss_set 5 ((sd_ixG (u1 hr.units) (so_callD c_proc_named (sds_cons (sd_var 0 (pv 0)) (sds_cons (sd_ixG (u1 hr.units) (sd_var 4 (pv 4)) sd_int) sds_nil))).sd sd_int).so) sc_passed_on.nd)
    (ss_one (ss_for (si_zip B.n_zip (sd_var 5 (pv 5)) (sd_ixG (u1 hr.units) (sd_var 4 (pv 4)) sd_int)) (sg_tup (n := 2) (sgs_cons (sg_name 6 (pg_name sc_passed_on.nd (by rfl) (by first | exact Or.inl rfl | exact Or.inr rfl))) (sgs_cons (sg_name 7 (pg_name sc_passed_on.nd (by rfl) (by first | exact Or.inl rfl | exact Or.inr rfl))) sgs_nil))) (ss_one (ss_if (SW.st (sw_and (st_eq hr.units (sd_ixG (u1 hr.units) (sd_var 6 (pv 6)) sd_int) sd_str) (sw_and1 (st_in (u1 hr.units) (sd_addG sd_str (sd_ixG (u1 hr.units) (sd_var 6 (pv 6)) sd_int)) (sd_ixG (u1 hr.units) (sd_var 1 (pv 1)) (sd_ixG (u1 hr.units) (sd_var 4 (pv 4)) sd_int)))))) (ss_one (ss_append 3 ((sd_addG sd_str (sd_ixG (u1 hr.units) (sd_var 7 (pv 7)) sd_int)).so) (pv 3))) ss_nil))))) ss_nil)))
    (ss_one (ss_ret (so_move 3 (pv 3))))))⟩
def c_passed_on : Fn := runDef 3 8 [] der_passed_on.1
theorem ok_passed_on {P : Program} {w : World} {K : PySem.W.Frag} {mg : Str → Option Value} {base : Heap} {cl : Cl} {A : Around} (B : Bnd K mg cl) (hr : Room 15 A) : Callee P w K mg base A cl "passed_on" c_passed_on := by
  obtain ⟨f, fd, F, hm⟩ := B.f_passed_on.ex
  exact ⟨_, _, ["core", "moving", "proc"], _, (def_ok F sc_passed_on rfl rfl (by decide) fun cdv A outer s H E hr => der_passed_on.2 P w K mg base cl B f cdv A outer s H E hr : FnOk P w K mg base CX0 15 f fd _ _), hr, hm, F.kp, (F.bindsN fun _ _ _ _ _ _ us hl => match us, hl with | [_, _, _], _ => rfl)⟩
/-! moving_table -/
abbrev LN_moving_table : List Str := ["core", "moving", "growing", "proc", "name"]
theorem sc_moving_table : FnScope ["core", "moving", "growing", "proc", "name"] ["core"] (defScope s_moving_table) := ⟨rfl, rfl, rfl, by decide +kernel, rfl, by decide +kernel, by decide +kernel⟩
def der_moving_table : { g : MS // ∀ (P : Program) (w : World) (K : PySem.W.Frag) (mg : Str → Option Value) (base : Heap) (cl : Cl) (B : Bnd K mg cl) (f : Addr) (cdv : Value) (A : Around) (outer : List PySem.Env) (s : Shared) (H : Hp) (E : XK), Room 16 (A.deeper (PyProof.Rows.envOfC d_moving_table.qual d_moving_table.scope s.heap.objs.size f cdv)) →
    SSs (cxOf CX0 P w K mg base ["core", "moving", "growing", "proc", "name"] d_moving_table.qual d_moving_table.scope f cdv A outer s H E).nox cl [] d_moving_table.body g } := ⟨_, fun P w K mg base cl B f cdv A outer s H E hr => by
  have c_passed_on := ok_passed_on (P := P) (w := w) (base := base) B (hr.mono (by decide : 15 ≤ 16))
  have c_assigned_in := ok_assigned_in (P := P) (w := w) (base := base) B (hr.mono (by decide : 15 ≤ 16))
  exact (ss_cons (SS.fz (ss_setDc 1 (own := [("proc", 3)]) (si_seq (sd_var 0 (pv 0))) (blkOk_by (show blkC LN_moving_table d_moving_table.scope _ _ = true by decide +kernel)) (fun s H C cs fp => (sg_name 3 (pg_name sc_moving_table.nd (by rfl) (by first | exact Or.inl rfl | exact Or.inr rfl)))) (fun s H C cs fp => sts_nil) (fun s H C cs fp => (sd_ixG (u1 hr.units) (sd_var 3 (pv 3)) sd_int)) (fun s H C cs fp => (so_callD c_assigned_in (sds_cons (sd_var 3 (pv 3)) sds_nil)).sd) sc_moving_table.nd))
    (ss_cons (ss_set 2 (sd_bl.so) sc_moving_table.nd)
    (ss_cons (ss_while 1000000 (st_tru (sd_var 2 (pv 2))) (ss_cons (ss_set 2 (sd_bl.so) sc_moving_table.nd)
    (ss_one (ss_for (si_seq (sd_var 0 (pv 0))) (sg_name 3 (pg_name sc_moving_table.nd (by rfl) (by first | exact Or.inl rfl | exact Or.inr rfl))) (ss_one (ss_for (si_seq (so_callD c_passed_on (sds_cons (sd_var 0 (pv 0)) (sds_cons (sd_var 1 (pv 1)) (sds_cons (sd_var 3 (pv 3)) sds_nil)))).sd) (sg_name 4 (pg_name sc_moving_table.nd (by rfl) (by first | exact Or.inl rfl | exact Or.inr rfl))) (ss_one (ss_if (st_notIn (u1 hr.units) (sd_var 4 (pv 4)) (sd_ixG (u1 hr.units) (sd_var 1 (pv 1)) (sd_ixG (u1 hr.units) (sd_var 3 (pv 3)) sd_int))) (ss_cons ss_dead
    (ss_one (ss_set 2 (sd_bl.so) sc_moving_table.nd))) ss_nil))))))))
    (ss_one (ss_ret ((sd_var 1 (pv 1)).so))))))⟩
def c_moving_table : Fn := runDef 1 5 [] der_moving_table.1
theorem ok_moving_table {P : Program} {w : World} {K : PySem.W.Frag} {mg : Str → Option Value} {base : Heap} {cl : Cl} {A : Around} (B : Bnd K mg cl) (hr : Room 17 A) : Callee P w K mg base A cl "moving_table" c_moving_table := by
  obtain ⟨f, fd, F, hm⟩ := B.f_moving_table.ex
  exact ⟨_, _, ["core"], _, (def_ok F sc_moving_table rfl rfl (by decide) fun cdv A outer s H E hr => der_moving_table.2 P w K mg base cl B f cdv A outer s H E hr : FnOk P w K mg base CX0 17 f fd _ _), hr, hm, F.kp, (F.bindsN fun _ _ _ _ _ _ us hl => match us, hl with | [_], _ => rfl)⟩
/-! outcomes_of -/
abbrev LN_outcomes_of : List Str := ["core", "name"]
theorem sc_outcomes_of : FnScope ["core", "name"] ["core", "name"] (defScope s_outcomes_of) := ⟨rfl, rfl, rfl, by decide +kernel, rfl, by decide +kernel, by decide +kernel⟩
def der_outcomes_of : { g : MS // ∀ (P : Program) (w : World) (K : PySem.W.Frag) (mg : Str → Option Value) (base : Heap) (cl : Cl) (B : Bnd K mg cl) (f : Addr) (cdv : Value) (A : Around) (outer : List PySem.Env) (s : Shared) (H : Hp) (E : XK), Room 18 (A.deeper (PyProof.Rows.envOfC d_outcomes_of.qual d_outcomes_of.scope s.heap.objs.size f cdv)) →
    SSs (cxOf CX0 P w K mg base ["core", "name"] d_outcomes_of.qual d_outcomes_of.scope f cdv A outer s H E).nox cl [] d_outcomes_of.body g } := ⟨_, fun P w K mg base cl B f cdv A outer s H E hr => by
  have c_outcomes_of_proc := ok_outcomes_of_proc (P := P) (w := w) (base := base) B (hr.mono (by decide : 5 ≤ 18))
  have c_moving_table := ok_moving_table (P := P) (w := w) (base := base) B (hr.mono (by decide : 17 ≤ 18))
  have c_proc_named := ok_proc_named (P := P) (w := w) (base := base) B (hr.mono (by decide : 1 ≤ 18))
  exact (ss_one (ss_ret (so_callD c_outcomes_of_proc (sds_cons (so_callD c_proc_named (sds_cons (sd_var 0 (pv 0)) (sds_cons (sd_var 1 (pv 1)) sds_nil))).sd (sds_cons (so_callD c_moving_table (sds_cons (sd_var 0 (pv 0)) sds_nil)).sd sds_nil)))))⟩
def c_outcomes_of : Fn := runDef 2 2 [] der_outcomes_of.1
theorem ok_outcomes_of {P : Program} {w : World} {K : PySem.W.Frag} {mg : Str → Option Value} {base : Heap} {cl : Cl} {A : Around} (B : Bnd K mg cl) (hr : Room 19 A) : Callee P w K mg base A cl "outcomes_of" c_outcomes_of := by
  obtain ⟨f, fd, F, hm⟩ := B.f_outcomes_of.ex
  exact ⟨_, _, ["core", "name"], _, (def_ok F sc_outcomes_of rfl rfl (by decide) fun cdv A outer s H E hr => der_outcomes_of.2 P w K mg base cl B f cdv A outer s H E hr : FnOk P w K mg base CX0 19 f fd _ _), hr, hm, F.kp, (F.bindsN fun _ _ _ _ _ _ us hl => match us, hl with | [_, _], _ => rfl)⟩
/-! plus -/
abbrev LN_plus : List Str := ["f", "g"]
theorem sc_plus : FnScope ["f", "g"] ["f", "g"] (defScope s_plus) := ⟨rfl, rfl, rfl, by decide +kernel, rfl, by decide +kernel, by decide +kernel⟩
def der_plus : { g : MS // ∀ (P : Program) (w : World) (K : PySem.W.Frag) (mg : Str → Option Value) (base : Heap) (cl : Cl) (B : Bnd K mg cl) (f : Addr) (cdv : Value) (A : Around) (outer : List PySem.Env) (s : Shared) (H : Hp) (E : XK), Room 2 (A.deeper (PyProof.Rows.envOfC d_plus.qual d_plus.scope s.heap.objs.size f cdv)) →
    SSs (cxOf CX0 P w K mg base ["f", "g"] d_plus.qual d_plus.scope f cdv A outer s H E).nox cl [] d_plus.body g } := ⟨_, fun P w K mg base cl B f cdv A outer s H E hr => by
  have c_form := ok_form (P := P) (w := w) (base := base) B (hr.mono (by decide : 1 ≤ 2))
  exact (ss_cons (ss_if (st_not (st_tru (sd_ixG (u1 hr.units) (sd_var 1 (pv 1)) sd_int))) (ss_one (ss_ret ((sd_tup (sds_cons (sd_addG (sd_ixG (u1 hr.units) (sd_var 0 (pv 0)) sd_int) (sd_ixG (u1 hr.units) (sd_var 1 (pv 1)) sd_int)) (sds_cons (sd_ixG (u1 hr.units) (sd_var 0 (pv 0)) sd_int) sds_nil))).so))) ss_nil)
    (ss_one (ss_ret (so_call c_form (by decide) (sa_cons ((sd_addG (sd_ixG (u1 hr.units) (sd_var 0 (pv 0)) sd_int) (sd_ixG (u1 hr.units) (sd_var 1 (pv 1)) sd_int)).so) (sa_cons ((sd_addG (sd_ixG (u1 hr.units) (sd_var 0 (pv 0)) sd_int) (sd_ixG (u1 hr.units) (sd_var 1 (pv 1)) sd_int)).so) sa_nil))))))⟩
def c_plus : Fn := runDef 2 2 [] der_plus.1
theorem ok_plus {P : Program} {w : World} {K : PySem.W.Frag} {mg : Str → Option Value} {base : Heap} {cl : Cl} {A : Around} (B : Bnd K mg cl) (hr : Room 3 A) : Callee P w K mg base A cl "plus" c_plus := by
  obtain ⟨f, fd, F, hm⟩ := B.f_plus.ex
  exact ⟨_, _, ["f", "g"], _, (def_ok F sc_plus rfl rfl (by decide) fun cdv A outer s H E hr => der_plus.2 P w K mg base cl B f cdv A outer s H E hr : FnOk P w K mg base CX0 3 f fd _ _), hr, hm, F.kp, (F.bindsN fun _ _ _ _ _ _ us hl => match us, hl with | [_, _], _ => rfl)⟩
/-! times -/
abbrev LN_times : List Str := ["k", "f", "name", "coefficient"]
theorem sc_times : FnScope ["k", "f", "name", "coefficient"] ["k", "f"] (defScope s_times) := ⟨rfl, rfl, rfl, by decide +kernel, rfl, by decide +kernel, by decide +kernel⟩
def der_times : { g : MS // ∀ (P : Program) (w : World) (K : PySem.W.Frag) (mg : Str → Option Value) (base : Heap) (cl : Cl) (B : Bnd K mg cl) (f : Addr) (cdv : Value) (A : Around) (outer : List PySem.Env) (s : Shared) (H : Hp) (E : XK), Room 0 (A.deeper (PyProof.Rows.envOfC d_times.qual d_times.scope s.heap.objs.size f cdv)) →
    SSs (cxOf CX0 P w K mg base ["k", "f", "name", "coefficient"] d_times.qual d_times.scope f cdv A outer s H E).nox cl [] d_times.body g } := ⟨_, fun P w K mg base cl B f cdv A outer s H E hr => by
  exact (ss_cons (ss_if (st_eq hr.units (sd_var 0 (pv 0)) sd_int) (ss_one (ss_ret (sd_dead.so))) ss_nil)
    (ss_one (ss_ret ((sd_tup (sds_cons (sd_mulG (sd_var 0 (pv 0)) (sd_ixG (u1 hr.units) (sd_var 1 (pv 1)) sd_int)) (sds_cons (sd_tuple B.n_tuple (so_comp (own := [("name", 2), ("coefficient", 3)]) (si_seq (sd_ixG (u1 hr.units) (sd_var 1 (pv 1)) sd_int)) (blkOk_by (show blkC LN_times d_times.scope _ _ = true by decide +kernel)) (fun s H C cs fp => (sg_tup (n := 2) (sgs_cons (sg_name 2 (pg_name sc_times.nd (by rfl) (by first | exact Or.inl rfl | exact Or.inr rfl))) (sgs_cons (sg_name 3 (pg_name sc_times.nd (by rfl) (by first | exact Or.inl rfl | exact Or.inr rfl))) sgs_nil)))) (fun s H C cs fp => sts_nil) (fun s H C cs fp => (sd_tup (sds_cons (sd_var 2 (pv 2)) (sds_cons (sd_mulG (sd_var 0 (pv 0)) (sd_var 3 (pv 3))) sds_nil)))) sc_times.nd).sd) sds_nil))).so))))⟩
def c_times : Fn := runDef 2 4 [] der_times.1
theorem ok_times {P : Program} {w : World} {K : PySem.W.Frag} {mg : Str → Option Value} {base : Heap} {cl : Cl} {A : Around} (B : Bnd K mg cl) (hr : Room 1 A) : Callee P w K mg base A cl "times" c_times := by
  obtain ⟨f, fd, F, hm⟩ := B.f_times.ex
  exact ⟨_, _, ["k", "f"], _, (def_ok F sc_times rfl rfl (by decide) fun cdv A outer s H E hr => der_times.2 P w K mg base cl B f cdv A outer s H E hr : FnOk P w K mg base CX0 1 f fd _ _), hr, hm, F.kp, (F.bindsN fun _ _ _ _ _ _ us hl => match us, hl with | [_, _], _ => rfl)⟩
/-! minus -/
abbrev LN_minus : List Str := ["f", "g"]
theorem sc_minus : FnScope ["f", "g"] ["f", "g"] (defScope s_minus) := ⟨rfl, rfl, rfl, by decide +kernel, rfl, by decide +kernel, by decide +kernel⟩
def der_minus : { g : MS // ∀ (P : Program) (w : World) (K : PySem.W.Frag) (mg : Str → Option Value) (base : Heap) (cl : Cl) (B : Bnd K mg cl) (f : Addr) (cdv : Value) (A : Around) (outer : List PySem.Env) (s : Shared) (H : Hp) (E : XK), Room 4 (A.deeper (PyProof.Rows.envOfC d_minus.qual d_minus.scope s.heap.objs.size f cdv)) →
    SSs (cxOf CX0 P w K mg base ["f", "g"] d_minus.qual d_minus.scope f cdv A outer s H E).nox cl [] d_minus.body g } := ⟨_, fun P w K mg base cl B f cdv A outer s H E hr => by
  have c_plus := ok_plus (P := P) (w := w) (base := base) B (hr.mono (by decide : 3 ≤ 4))
  have c_times := ok_times (P := P) (w := w) (base := base) B (hr.mono (by decide : 1 ≤ 4))
  exact (ss_one (ss_ret (so_callD c_plus (sds_cons (sd_var 0 (pv 0)) (sds_cons (so_callD c_times (sds_cons (sd_neg sd_int) (sds_cons (sd_var 1 (pv 1)) sds_nil))).sd sds_nil)))))⟩
def c_minus : Fn := runDef 2 2 [] der_minus.1
theorem ok_minus {P : Program} {w : World} {K : PySem.W.Frag} {mg : Str → Option Value} {base : Heap} {cl : Cl} {A : Around} (B : Bnd K mg cl) (hr : Room 5 A) : Callee P w K mg base A cl "minus" c_minus := by
  obtain ⟨f, fd, F, hm⟩ := B.f_minus.ex
  exact ⟨_, _, ["f", "g"], _, (def_ok F sc_minus rfl rfl (by decide) fun cdv A outer s H E hr => der_minus.2 P w K mg base cl B f cdv A outer s H E hr : FnOk P w K mg base CX0 5 f fd _ _), hr, hm, F.kp, (F.bindsN fun _ _ _ _ _ _ us hl => match us, hl with | [_, _], _ => rfl)⟩
/-! _law_both_ways -/
abbrev LN_u_law_both_ways : List Str := ["one", "other"]
theorem sc_u_law_both_ways : FnScope ["one", "other"] ["one", "other"] (defScope s_u_law_both_ways) := ⟨rfl, rfl, rfl, by decide +kernel, rfl, by decide +kernel, by decide +kernel⟩
def der_u_law_both_ways : { g : MS // ∀ (P : Program) (w : World) (K : PySem.W.Frag) (mg : Str → Option Value) (base : Heap) (cl : Cl) (B : Bnd K mg cl) (f : Addr) (cdv : Value) (A : Around) (outer : List PySem.Env) (s : Shared) (H : Hp) (E : XK), Room 6 (A.deeper (PyProof.Rows.envOfC d_u_law_both_ways.qual d_u_law_both_ways.scope s.heap.objs.size f cdv)) →
    SSs (cxOf CX0 P w K mg base ["one", "other"] d_u_law_both_ways.qual d_u_law_both_ways.scope f cdv A outer s H E).nox cl [] d_u_law_both_ways.body g } := ⟨_, fun P w K mg base cl B f cdv A outer s H E hr => by
  have c_minus := ok_minus (P := P) (w := w) (base := base) B (hr.mono (by decide : 5 ≤ 6))
  exact (ss_one (ss_ret (so_lst (sds_cons (so_callD c_minus (sds_cons (sd_var 0 (pv 0)) (sds_cons (sd_var 1 (pv 1)) sds_nil))).sd (sds_cons (so_callD c_minus (sds_cons (sd_var 1 (pv 1)) (sds_cons (sd_var 0 (pv 0)) sds_nil))).sd sds_nil)))))⟩
def c_u_law_both_ways : Fn := runDef 2 2 [] der_u_law_both_ways.1
theorem ok_u_law_both_ways {P : Program} {w : World} {K : PySem.W.Frag} {mg : Str → Option Value} {base : Heap} {cl : Cl} {A : Around} (B : Bnd K mg cl) (hr : Room 7 A) : Callee P w K mg base A cl "_law_both_ways" c_u_law_both_ways := by
  obtain ⟨f, fd, F, hm⟩ := B.f_u_law_both_ways.ex
  exact ⟨_, _, ["one", "other"], _, (def_ok F sc_u_law_both_ways rfl rfl (by decide) fun cdv A outer s H E hr => der_u_law_both_ways.2 P w K mg base cl B f cdv A outer s H E hr : FnOk P w K mg base CX0 7 f fd _ _), hr, hm, F.kp, (F.bindsN fun _ _ _ _ _ _ us hl => match us, hl with | [_, _], _ => rfl)⟩
/-! _law_claim -/
abbrev LN_u_law_claim : List Str := ["cores", "parts", "invariants", "proc", "converter", "relation", "mine", "givens", "same", "k", "one", "kind", "x", "arrays", "behind", "place", "length", "names", "pairs", "asks", "own", "keep", "f", "other", "p"]
theorem sc_u_law_claim : FnScope ["cores", "parts", "invariants", "proc", "converter", "relation", "mine", "givens", "same", "k", "one", "kind", "x", "arrays", "behind", "place", "length", "names", "pairs", "asks", "own", "keep", "f", "other", "p"] ["cores", "parts", "invariants", "proc", "converter", "relation"] (defScope s_u_law_claim) := ⟨rfl, rfl, rfl, by decide +kernel, rfl, by decide +kernel, by decide +kernel⟩
def der_u_law_claim : { g : MS // ∀ (P : Program) (w : World) (K : PySem.W.Frag) (mg : Str → Option Value) (base : Heap) (cl : Cl) (B : Bnd K mg cl) (f : Addr) (cdv : Value) (A : Around) (outer : List PySem.Env) (s : Shared) (H : Hp) (E : XK), Room 20 (A.deeper (PyProof.Rows.envOfC d_u_law_claim.qual d_u_law_claim.scope s.heap.objs.size f cdv)) →
    SSs (cxOf CX0 P w K mg base ["cores", "parts", "invariants", "proc", "converter", "relation", "mine", "givens", "same", "k", "one", "kind", "x", "arrays", "behind", "place", "length", "names", "pairs", "asks", "own", "keep", "f", "other", "p"] d_u_law_claim.qual d_u_law_claim.scope f cdv A outer s H E).nox cl [2] d_u_law_claim.body g } := ⟨_, fun P w K mg base cl B f cdv A outer s H E hr => by
  have c_image := ok_image (P := P) (w := w) (base := base) B (hr.mono (by decide : 3 ≤ 20))
  have c_u_law_marked := ok_u_law_marked (P := P) (w := w) (base := base) B (hr.mono (by decide : 1 ≤ 20))
  have c_inputs_of := ok_inputs_of (P := P) (w := w) (base := base) B (hr.mono (by decide : 5 ≤ 20))
  have c_u_law_ask_form := ok_u_law_ask_form (P := P) (w := w) (base := base) B (hr.mono (by decide : 3 ≤ 20))
  have c_outcomes_of := ok_outcomes_of (P := P) (w := w) (base := base) B (hr.mono (by decide : 19 ≤ 20))
  have c_u_law_both_ways := ok_u_law_both_ways (P := P) (w := w) (base := base) B (hr.mono (by decide : 7 ≤ 20))
  exact (ss_cons (ss_set 6 ((sd_slice (sd_ixG (u1 hr.units) (sd_ixG (u1 hr.units) (so_comp (own := [("p", 24)]) (si_seq (sd_ixG (u1 hr.units) (sd_var 0 (pv 0)) sd_int)) (blkOk_by (show blkC LN_u_law_claim d_u_law_claim.scope _ _ = true by decide +kernel)) (fun s H C cs fp => (sg_name 24 (pg_name sc_u_law_claim.nd (by rfl) (by first | exact Or.inl rfl | exact Or.inr rfl)))) (fun s H C cs fp => (sts_one (st_eq hr.units (sd_ixG (u1 hr.units) (sd_var 24 (pv 24)) sd_int) (sd_ixG (u1 hr.units) (sd_ixG (u1 hr.units) (sd_ixG (u1 hr.units) (sd_var 1 (pv 1)) sd_int) sd_int) sd_int)))) (fun s H C cs fp => (sd_var 24 (pv 24))) sc_u_law_claim.nd).sd sd_int) sd_int) spo_none (spo_some (sd_addG (sd_ixG (u1 hr.units) (sd_ixG (u1 hr.units) (sd_var 1 (pv 1)) sd_int) sd_int) (sd_ixG (u1 hr.units) (sd_ixG (u1 hr.units) (sd_var 1 (pv 1)) sd_int) sd_int)))).so) sc_u_law_claim.nd)
    (ss_cons (ss_set 7 ((so_lst sds_nil).sd.so) sc_u_law_claim.nd)
    (ss_cons (ss_set 8 (so_lst sds_nil) sc_u_law_claim.nd)
    (ss_cons (ss_for (si_range1 B.n_range (sd_len B.n_len (sd_var 6 (pv 6)))) (sg_name 9 (pg_name sc_u_law_claim.nd (by rfl) (by first | exact Or.inl rfl | exact Or.inr rfl))) (ss_one (ss_if (st_eq hr.units (sd_ixG (u1 hr.units) (sd_ixG (u1 hr.units) (sd_var 6 (pv 6)) (sd_var 9 (pv 9))) sd_int) sd_str) (ss_one (ss_append 8 ((sd_tup (sds_cons (sd_ixG (u1 hr.units) (sd_ixG (u1 hr.units) (sd_var 6 (pv 6)) (sd_var 9 (pv 9))) sd_int) (sds_cons (sd_ixG (u1 hr.units) (sd_ixG (u1 hr.units) (sd_ixG (u1 hr.units) (sd_var 3 (pv 3)) sd_int) (sd_var 9 (pv 9))) sd_int) sds_nil))).so) (pv 8))) (ss_cons (ss_set 10 ((sd_tup (sds_cons sd_int (sds_cons (sd_tup (sds_cons (sd_tup (sds_cons (sd_addG sd_str (sd_ixG (u1 hr.units) (sd_ixG (u1 hr.units) (sd_var 6 (pv 6)) (sd_var 9 (pv 9))) sd_int)) (sds_cons sd_int sds_nil))) sds_nil)) sds_nil))).so) sc_u_law_claim.nd)
    (ss_one (ss_set 7 ((sd_addG (sd_var 7 (pv 7)) (so_callD c_u_law_both_ways (sds_cons (sd_var 10 (pv 10)) (sds_cons (sd_tup (sds_cons sd_int (sds_cons (sd_tup (sds_cons (sd_tup (sds_cons (sd_addG sd_str (sd_ixG (u1 hr.units) (sd_ixG (u1 hr.units) (sd_ixG (u1 hr.units) (sd_var 3 (pv 3)) sd_int) (sd_var 9 (pv 9))) sd_int)) (sds_cons sd_int sds_nil))) sds_nil)) sds_nil))) sds_nil))).sd).so) sc_u_law_claim.nd))))))
    (ss_cons (ss_for (si_seq (sd_slice (sd_ixG (u1 hr.units) (sd_var 3 (pv 3)) sd_int) (spo_some (sd_len B.n_len (sd_var 6 (pv 6)))) spo_none)) (sg_tup (n := 2) (sgs_cons (sg_name 11 (pg_name sc_u_law_claim.nd (by rfl) (by first | exact Or.inl rfl | exact Or.inr rfl))) (sgs_cons (sg_name 12 (pg_name sc_u_law_claim.nd (by rfl) (by first | exact Or.inl rfl | exact Or.inr rfl))) sgs_nil))) (ss_one (ss_set 7 ((sd_addG (sd_var 7 (pv 7)) (so_lst (sds_cons (sd_tup (sds_cons sd_int (sds_cons (sd_tup (sds_cons (sd_tup (sds_cons (sd_addG sd_str (sd_var 12 (pv 12))) (sds_cons sd_int sds_nil))) sds_nil)) sds_nil))) (sds_cons (sd_tup (sds_cons sd_int (sds_cons (sd_tup (sds_cons (sd_tup (sds_cons (sd_addG sd_str (sd_var 12 (pv 12))) (sds_cons (sd_neg sd_int) sds_nil))) sds_nil)) sds_nil))) sds_nil))).sd).so) sc_u_law_claim.nd)))
    (ss_cons (ss_set 7 ((sd_addG (sd_var 7 (pv 7)) (so_comp (own := [("f", 22)]) (si_seq ((sd_ixG (u1 hr.units) (sd_var 2 (pv 2)) sd_int).peek)) (blkOk_by (show blkC LN_u_law_claim d_u_law_claim.scope _ _ = true by decide +kernel)) (fun s H C cs fp => (sg_name 22 (pg_name sc_u_law_claim.nd (by rfl) (by first | exact Or.inl rfl | exact Or.inr rfl)))) (fun s H C cs fp => sts_nil) (fun s H C cs fp => (so_callD c_u_law_marked (sds_cons sd_str (sds_cons (sd_var 22 (pv 22)) sds_nil))).sd) sc_u_law_claim.nd).sd).so) sc_u_law_claim.nd)
    (ss_cons (ss_set 13 ((so_comp (own := [("kind", 11), ("x", 12)]) (si_seq (sd_ixG (u1 hr.units) (sd_var 3 (pv 3)) sd_int)) (blkOk_by (show blkC LN_u_law_claim d_u_law_claim.scope _ _ = true by decide +kernel)) (fun s H C cs fp => (sg_tup (n := 2) (sgs_cons (sg_name 11 (pg_name sc_u_law_claim.nd (by rfl) (by first | exact Or.inl rfl | exact Or.inr rfl))) (sgs_cons (sg_name 12 (pg_name sc_u_law_claim.nd (by rfl) (by first | exact Or.inl rfl | exact Or.inr rfl))) sgs_nil)))) (fun s H C cs fp => (sts_one (st_eq hr.units (sd_var 11 (pv 11)) sd_str))) (fun s H C cs fp => (sd_var 12 (pv 12))) sc_u_law_claim.nd).sd.so) sc_u_law_claim.nd)
    (ss_cons (ss_set 14 (so_comp (own := [("x", 12)]) (si_seq (sd_ixG (u1 hr.units) (sd_var 3 (pv 3)) sd_int)) (blkOk_by (show blkC LN_u_law_claim d_u_law_claim.scope _ _ = true by decide +kernel)) (fun s H C cs fp => (sg_name 12 (pg_name sc_u_law_claim.nd (by rfl) (by first | exact Or.inl rfl | exact Or.inr rfl)))) (fun s H C cs fp => sts_nil) (fun s H C cs fp => (so_callD c_u_law_ask_form (sds_cons sd_str (sds_cons (sd_var 12 (pv 12)) sds_nil))).sd) sc_u_law_claim.nd) sc_u_law_claim.nd)
    (ss_cons (ss_for (si_seq (sd_ixG (u1 hr.units) (sd_var 4 (pv 4)) sd_int)) (sg_name 15 (pg_name sc_u_law_claim.nd (by rfl) (by first | exact Or.inl rfl | exact Or.inr rfl))) (ss_cons (ss_set 16 ((sd_addG sd_str (sd_ixG (u1 hr.units) (sd_var 13 (pv 13)) (sd_var 15 (pv 15)))).so) sc_u_law_claim.nd)
    (ss_cons (ss_if (st_in (u1 hr.units) (sd_addG sd_str (sd_ixG (u1 hr.units) (sd_var 13 (pv 13)) (sd_var 15 (pv 15)))) (so_callD c_outcomes_of (sds_cons (sd_ixG (u1 hr.units) (sd_var 0 (pv 0)) sd_int) (sds_cons (sd_ixG (u1 hr.units) (sd_var 3 (pv 3)) sd_int) sds_nil))).sd) (ss_one (ss_set 16 ((sd_addG sd_str (sd_ixG (u1 hr.units) (sd_var 13 (pv 13)) (sd_var 15 (pv 15)))).so) sc_u_law_claim.nd)) ss_nil)
    (ss_one (ss_append 14 (so_callD c_u_law_ask_form (sds_cons sd_str (sds_cons (sd_var 16 (pv 16)) sds_nil))) (pv 14))))))
    (ss_cons (ss_set 17 ((sd_slice (so_callD c_inputs_of (sds_cons (sd_ixG (u1 hr.units) (sd_var 0 (pv 0)) sd_int) (sds_cons (sd_ixG (u1 hr.units) (sd_ixG (u1 hr.units) (sd_ixG (u1 hr.units) (sd_var 1 (pv 1)) sd_int) sd_int) sd_int) sds_nil))).sd spo_none (spo_some (sd_addG (sd_ixG (u1 hr.units) (sd_ixG (u1 hr.units) (sd_var 1 (pv 1)) sd_int) sd_int) (sd_ixG (u1 hr.units) (sd_ixG (u1 hr.units) (sd_var 1 (pv 1)) sd_int) sd_int)))).so) sc_u_law_claim.nd)
    (ss_cons (ss_set 18 ((so_comp (own := [("k", 9)]) (si_range1 B.n_range (sd_len B.n_len (sd_var 17 (pv 17)))) (blkOk_by (show blkC LN_u_law_claim d_u_law_claim.scope _ _ = true by decide +kernel)) (fun s H C cs fp => (sg_name 9 (pg_name sc_u_law_claim.nd (by rfl) (by first | exact Or.inl rfl | exact Or.inr rfl)))) (fun s H C cs fp => sts_nil) (fun s H C cs fp => (sd_tup (sds_cons (sd_addG sd_str (sd_ixG (u1 hr.units) (sd_var 17 (pv 17)) (sd_var 9 (pv 9)))) (sds_cons ((sd_ixG (u1 hr.units) (sd_var 14 (pv 14)) (sd_var 9 (pv 9))).peek) sds_nil)))) sc_u_law_claim.nd).sd.so) sc_u_law_claim.nd)
    (ss_cons (SS.fz (ss_setComp 19 (own := [("f", 22)]) (si_seq (sd_ixG (u1 hr.units) (sd_var 5 (pv 5)) sd_int)) (blkOk_by (show blkC LN_u_law_claim d_u_law_claim.scope _ _ = true by decide +kernel)) (fun s H C cs fp => (sg_name 22 (pg_name sc_u_law_claim.nd (by rfl) (by first | exact Or.inl rfl | exact Or.inr rfl)))) (fun s H C cs fp => sts_nil) (fun s H C cs fp => (so_callD c_image (sds_cons (sd_var 22 (pv 22)) (sds_cons (sd_var 18 (pv 18)) sds_nil))).sd) sc_u_law_claim.nd))
    (ss_cons (ss_set 19 ((sd_addG (sd_var 19 (pv 19)) (so_comp (own := [("f", 22)]) (si_seq ((sd_ixG (u1 hr.units) (sd_var 2 (pv 2)) sd_int).peek)) (blkOk_by (show blkC LN_u_law_claim d_u_law_claim.scope _ _ = true by decide +kernel)) (fun s H C cs fp => (sg_name 22 (pg_name sc_u_law_claim.nd (by rfl) (by first | exact Or.inl rfl | exact Or.inr rfl)))) (fun s H C cs fp => sts_nil) (fun s H C cs fp => (so_callD c_image (sds_cons (so_callD c_u_law_marked (sds_cons sd_str (sds_cons (sd_var 22 (pv 22)) sds_nil))).sd (sds_cons (sd_var 18 (pv 18)) sds_nil))).sd) sc_u_law_claim.nd).sd).so) sc_u_law_claim.nd)
    (ss_cons (ss_set 20 ((so_comp (own := [("kind", 11), ("x", 12)]) (si_seq (sd_var 6 (pv 6))) (blkOk_by (show blkC LN_u_law_claim d_u_law_claim.scope _ _ = true by decide +kernel)) (fun s H C cs fp => (sg_tup (n := 2) (sgs_cons (sg_name 11 (pg_name sc_u_law_claim.nd (by rfl) (by first | exact Or.inl rfl | exact Or.inr rfl))) (sgs_cons (sg_name 12 (pg_name sc_u_law_claim.nd (by rfl) (by first | exact Or.inl rfl | exact Or.inr rfl))) sgs_nil)))) (fun s H C cs fp => (sts_one (st_eq hr.units (sd_var 11 (pv 11)) sd_str))) (fun s H C cs fp => (sd_var 12 (pv 12))) sc_u_law_claim.nd).sd.so) sc_u_law_claim.nd)
    (ss_cons (SS.fz (ss_setComp 21 (own := [("one", 10), ("other", 23)]) (si_seq (sd_ixG (u1 hr.units) (sd_var 5 (pv 5)) sd_int)) (blkOk_by (show blkC LN_u_law_claim d_u_law_claim.scope _ _ = true by decide +kernel)) (fun s H C cs fp => (sg_tup (n := 2) (sgs_cons (sg_name 10 (pg_name sc_u_law_claim.nd (by rfl) (by first | exact Or.inl rfl | exact Or.inr rfl))) (sgs_cons (sg_name 23 (pg_name sc_u_law_claim.nd (by rfl) (by first | exact Or.inl rfl | exact Or.inr rfl))) sgs_nil)))) (fun s H C cs fp => sts_nil) (fun s H C cs fp => (sd_tup (sds_cons (sd_ixG (u1 hr.units) (sd_var 20 (pv 20)) (sd_var 10 (pv 10))) (sds_cons (sd_ixG (u1 hr.units) (sd_var 13 (pv 13)) (sd_ixG (u1 hr.units) (sd_ixG (u1 hr.units) (sd_var 4 (pv 4)) sd_int) (sd_var 23 (pv 23)))) sds_nil)))) sc_u_law_claim.nd))
    (ss_one (ss_ret ((sd_tup (sds_cons sd_str (sds_cons (sd_ixG (u1 hr.units) (sd_var 3 (pv 3)) sd_int) (sds_cons (sd_tuple B.n_tuple (sd_var 7 (pv 7))) (sds_cons ((sd_tuple B.n_tuple (sd_var 8 (pv 8))).peek) (sds_cons (sd_tuple B.n_tuple (sd_var 19 (pv 19))) (sds_cons (sd_tuple B.n_tuple (sd_var 21 (pv 21))) sds_nil))))))).so))))))))))))))))))⟩
def c_u_law_claim : Fn := runDef 6 25 [2] der_u_law_claim.1
theorem ok_u_law_claim {P : Program} {w : World} {K : PySem.W.Frag} {mg : Str → Option Value} {base : Heap} {cl : Cl} {A : Around} (B : Bnd K mg cl) (hr : Room 21 A) : Callee P w K mg base A cl "_law_claim" c_u_law_claim := by
  obtain ⟨f, fd, F, hm⟩ := B.f_u_law_claim.ex
  exact ⟨_, _, ["cores", "parts", "invariants", "proc", "converter", "relation"], _, (def_ok F sc_u_law_claim rfl rfl (by decide) fun cdv A outer s H E hr => der_u_law_claim.2 P w K mg base cl B f cdv A outer s H E hr : FnOk P w K mg base CX0 21 f fd _ _), hr, hm, F.kp, (F.bindsN fun _ _ _ _ _ _ us hl => match us, hl with | [_, _, _, _, _, _], _ => rfl)⟩
/-! _law_is_int -/
abbrev LN_u_law_is_int : List Str := ["x"]
theorem sc_u_law_is_int : FnScope ["x"] ["x"] (defScope s_u_law_is_int) := ⟨rfl, rfl, rfl, by decide +kernel, rfl, by decide +kernel, by decide +kernel⟩
def der_u_law_is_int : { g : MS // ∀ (P : Program) (w : World) (K : PySem.W.Frag) (mg : Str → Option Value) (base : Heap) (cl : Cl) (B : Bnd K mg cl) (f : Addr) (cdv : Value) (A : Around) (outer : List PySem.Env) (s : Shared) (H : Hp) (E : XK), Room 0 (A.deeper (PyProof.Rows.envOfC d_u_law_is_int.qual d_u_law_is_int.scope s.heap.objs.size f cdv)) →
    SSs (cxOf CX0 P w K mg base ["x"] d_u_law_is_int.qual d_u_law_is_int.scope f cdv A outer s H E).nox cl [] d_u_law_is_int.body g } := ⟨_, fun P w K mg base cl B f cdv A outer s H E hr => by
  exact (ss_one (ss_ret ((sd_and (sd_isi "int" B.n_isinstance (sd_var 0 (pv 0)) B.n_int (by decide +kernel)) (sd_one (sd_not (sd_isi "bool" B.n_isinstance (sd_var 0 (pv 0)) B.n_bool (by decide +kernel))))).so)))⟩
def c_u_law_is_int : Fn := runDef 1 1 [] der_u_law_is_int.1
theorem ok_u_law_is_int {P : Program} {w : World} {K : PySem.W.Frag} {mg : Str → Option Value} {base : Heap} {cl : Cl} {A : Around} (B : Bnd K mg cl) (hr : Room 1 A) : Callee P w K mg base A cl "_law_is_int" c_u_law_is_int := by
  obtain ⟨f, fd, F, hm⟩ := B.f_u_law_is_int.ex
  exact ⟨_, _, ["x"], _, (def_ok F sc_u_law_is_int rfl rfl (by decide) fun cdv A outer s H E hr => der_u_law_is_int.2 P w K mg base cl B f cdv A outer s H E hr : FnOk P w K mg base CX0 1 f fd _ _), hr, hm, F.kp, (F.bindsN fun _ _ _ _ _ _ us hl => match us, hl with | [_], _ => rfl)⟩
/-! _law_same -/
abbrev LN_u_law_same : List Str := ["x", "y", "k"]
theorem sc_u_law_same : FnScope ["x", "y", "k"] ["x", "y"] (defScope s_u_law_same) := ⟨rfl, rfl, rfl, by decide +kernel, rfl, by decide +kernel, by decide +kernel⟩
def der_u_law_same (self : Fn) : { g : MS // ∀ (P : Program) (w : World) (K : PySem.W.Frag) (mg : Str → Option Value) (base : Heap) (cl : Cl) (B : Bnd K mg cl) (f : Addr) (cdv : Value) (A : Around) (outer : List PySem.Env) (s : Shared) (H : Hp) (E : XK), Room 2 (A.deeper (PyProof.Rows.envOfC d_u_law_same.qual d_u_law_same.scope s.heap.objs.size f cdv)) → Callee P w K mg base (A.deeper (PyProof.Rows.envOfC d_u_law_same.qual d_u_law_same.scope s.heap.objs.size f cdv)) cl "_law_same" self →
    SSs (cxOf CX0 P w K mg base ["x", "y", "k"] d_u_law_same.qual d_u_law_same.scope f cdv A outer s H E).nox cl [] d_u_law_same.body g } := ⟨_, fun P w K mg base cl B f cdv A outer s H E hr c_self => by
  have c_u_law_is_int := ok_u_law_is_int (P := P) (w := w) (base := base) B (hr.mono (by decide : 1 ≤ 2))
  exact (ss_cons (ss_if (st_tru (sd_isi "tuple" B.n_isinstance (sd_var 1 (pv 1)) B.n_tuple (by decide +kernel))) (ss_cons (ss_if (SW.st (sw_or (st_not (st_tru (sd_isi "tuple" B.n_isinstance (sd_var 0 (pv 0)) B.n_tuple (by decide +kernel)))) (sw_or1 (st_ne hr.units (sd_len B.n_len (sd_var 0 (pv 0))) (sd_len B.n_len (sd_var 1 (pv 1))))))) (ss_one (ss_ret (sd_bl.so))) ss_nil)
    (ss_one (ss_ret ((sd_all B.n_all (so_comp (own := [("k", 2)]) (si_range1 B.n_range (sd_len B.n_len (sd_var 1 (pv 1)))) (blkOk_by (show blkC LN_u_law_same d_u_law_same.scope _ _ = true by decide +kernel)) (fun s H C cs fp => (sg_name 2 (pg_name sc_u_law_same.nd (by rfl) (by first | exact Or.inl rfl | exact Or.inr rfl)))) (fun s H C cs fp => sts_nil) (fun s H C cs fp => (so_callD c_self (sds_cons (sd_ixG (u1 hr.units) (sd_var 0 (pv 0)) (sd_var 2 (pv 2))) (sds_cons (sd_ixG (u1 hr.units) (sd_var 1 (pv 1)) (sd_var 2 (pv 2))) sds_nil))).sd) sc_u_law_same.nd).sd).so)))) ss_nil)
    (ss_cons (ss_if (st_tru (sd_isi "str" B.n_isinstance (sd_var 1 (pv 1)) B.n_str (by decide +kernel))) (ss_one (ss_ret ((sd_and (sd_isi "str" B.n_isinstance (sd_var 0 (pv 0)) B.n_str (by decide +kernel)) (sd_one (sd_eq hr.units (sd_var 0 (pv 0)) (sd_var 1 (pv 1))))).so))) ss_nil)
    (ss_one (ss_ret ((sd_and (so_callD c_u_law_is_int (sds_cons (sd_var 0 (pv 0)) sds_nil)).sd (sd_one (sd_eq hr.units (sd_var 0 (pv 0)) (sd_var 1 (pv 1))))).so)))))⟩
def r_u_law_same : Nat → Fn
  | 0 => runDef 2 3 [] (fun _ => none)
  | n + 1 => runDef 2 3 [] (der_u_law_same (r_u_law_same n)).1
theorem okr_u_law_same {P : Program} {w : World} {K : PySem.W.Frag} {mg : Str → Option Value} {base : Heap} {cl : Cl} (B : Bnd K mg cl) : ∀ (n : Nat) {A : Around}, Room (3 + n) A → Callee P w K mg base A cl "_law_same" (r_u_law_same n)
  | 0, A, hr => by
    obtain ⟨f, fd, F, hm⟩ := B.f_u_law_same.ex
    exact ⟨_, _, ["x", "y"], _, (def_ok F sc_u_law_same rfl rfl (by decide) fun cdv A outer s H E hr => sss_dead : FnOk P w K mg base CX0 3 f fd _ _), hr, hm, F.kp, (F.bindsN fun _ _ _ _ _ _ us hl => match us, hl with | [_, _], _ => rfl)⟩
  | n + 1, A, hr => by
    obtain ⟨f, fd, F, hm⟩ := B.f_u_law_same.ex
    exact ⟨_, _, ["x", "y"], _, (def_ok F sc_u_law_same rfl rfl (by decide) fun cdv A outer s H E hr => (der_u_law_same (r_u_law_same n)).2 P w K mg base cl B f cdv A outer s H E (hr.mono (by omega)) (okr_u_law_same B n hr) : FnOk P w K mg base CX0 (3 + n + 1) f fd _ _), hr, hm, F.kp, (F.bindsN fun _ _ _ _ _ _ us hl => match us, hl with | [_, _], _ => rfl)⟩
def c_u_law_same : Fn := r_u_law_same 12
theorem ok_u_law_same {P : Program} {w : World} {K : PySem.W.Frag} {mg : Str → Option Value} {base : Heap} {cl : Cl} {A : Around} (B : Bnd K mg cl) (hr : Room 15 A) : Callee P w K mg base A cl "_law_same" c_u_law_same := okr_u_law_same B 12 hr
/-! _law_needs -/
abbrev LN_u_law_needs : List Str := ["low", "k"]
theorem sc_u_law_needs : FnScope ["low", "k"] ["low", "k"] (defScope s_u_law_needs) := ⟨rfl, rfl, rfl, by decide +kernel, rfl, by decide +kernel, by decide +kernel⟩
def der_u_law_needs : { g : MS // ∀ (P : Program) (w : World) (K : PySem.W.Frag) (mg : Str → Option Value) (base : Heap) (cl : Cl) (B : Bnd K mg cl) (f : Addr) (cdv : Value) (A : Around) (outer : List PySem.Env) (s : Shared) (H : Hp) (E : XK), Room 0 (A.deeper (PyProof.Rows.envOfC d_u_law_needs.qual d_u_law_needs.scope s.heap.objs.size f cdv)) →
    SSs (cxOf CX0 P w K mg base ["low", "k"] d_u_law_needs.qual d_u_law_needs.scope f cdv A outer s H E).nox cl [] d_u_law_needs.body g } := ⟨_, fun P w K mg base cl B f cdv A outer s H E hr => by
  exact (ss_cons (ss_if (st_is (sd_var 0 (pv 0)) sd_non) (ss_one (ss_ret ((sd_tup sds_nil).so))) ss_nil)
    (ss_one (ss_ret ((sd_tup (sds_cons (sd_tup (sds_cons (sd_neg (sd_var 0 (pv 0))) (sds_cons (sd_tup (sds_cons (sd_tup (sds_cons (sd_addG sd_str (sd_var 1 (pv 1))) (sds_cons sd_int sds_nil))) sds_nil)) sds_nil))) sds_nil)).so))))⟩
def c_u_law_needs : Fn := runDef 2 2 [] der_u_law_needs.1
theorem ok_u_law_needs {P : Program} {w : World} {K : PySem.W.Frag} {mg : Str → Option Value} {base : Heap} {cl : Cl} {A : Around} (B : Bnd K mg cl) (hr : Room 1 A) : Callee P w K mg base A cl "_law_needs" c_u_law_needs := by
  obtain ⟨f, fd, F, hm⟩ := B.f_u_law_needs.ex
  exact ⟨_, _, ["low", "k"], _, (def_ok F sc_u_law_needs rfl rfl (by decide) fun cdv A outer s H E hr => der_u_law_needs.2 P w K mg base cl B f cdv A outer s H E hr : FnOk P w K mg base CX0 1 f fd _ _), hr, hm, F.kp, (F.bindsN fun _ _ _ _ _ _ us hl => match us, hl with | [_, _], _ => rfl)⟩
/-! _law_add -/
abbrev LN_u_law_add : List Str := ["x", "k"]
theorem sc_u_law_add : FnScope ["x", "k"] ["x", "k"] (defScope s_u_law_add) := ⟨rfl, rfl, rfl, by decide +kernel, rfl, by decide +kernel, by decide +kernel⟩
def der_u_law_add : { g : MS // ∀ (P : Program) (w : World) (K : PySem.W.Frag) (mg : Str → Option Value) (base : Heap) (cl : Cl) (B : Bnd K mg cl) (f : Addr) (cdv : Value) (A : Around) (outer : List PySem.Env) (s : Shared) (H : Hp) (E : XK), Room 2 (A.deeper (PyProof.Rows.envOfC d_u_law_add.qual d_u_law_add.scope s.heap.objs.size f cdv)) →
    SSs (cxOf CX0 P w K mg base ["x", "k"] d_u_law_add.qual d_u_law_add.scope f cdv A outer s H E).nox cl [] d_u_law_add.body g } := ⟨_, fun P w K mg base cl B f cdv A outer s H E hr => by
  have c_u_law_num := ok_u_law_num (P := P) (w := w) (base := base) B (hr.mono (by decide : 1 ≤ 2))
  exact (ss_one (ss_ret ((sd_tup (sds_cons sd_str (sds_cons (sd_tup (sds_cons (sd_tup (sds_cons (sd_var 0 (pv 0)) (sds_cons (sd_tup (sds_cons sd_str (sds_cons (sd_tup (sds_cons sd_str (sds_cons (sd_var 0 (pv 0)) sds_nil))) (sds_cons (so_callD c_u_law_num (sds_cons (sd_var 1 (pv 1)) sds_nil)).sd sds_nil)))) sds_nil))) sds_nil)) sds_nil))).so)))⟩
def c_u_law_add : Fn := runDef 2 2 [] der_u_law_add.1
theorem ok_u_law_add {P : Program} {w : World} {K : PySem.W.Frag} {mg : Str → Option Value} {base : Heap} {cl : Cl} {A : Around} (B : Bnd K mg cl) (hr : Room 3 A) : Callee P w K mg base A cl "_law_add" c_u_law_add := by
  obtain ⟨f, fd, F, hm⟩ := B.f_u_law_add.ex
  exact ⟨_, _, ["x", "k"], _, (def_ok F sc_u_law_add rfl rfl (by decide) fun cdv A outer s H E hr => der_u_law_add.2 P w K mg base cl B f cdv A outer s H E hr : FnOk P w K mg base CX0 3 f fd _ _), hr, hm, F.kp, (F.bindsN fun _ _ _ _ _ _ us hl => match us, hl with | [_, _], _ => rfl)⟩
/-! _law_side -/
abbrev LN_u_law_side : List Str := ["state", "spec", "x", "a", "w", "k", "t", "i", "order", "items", "places", "log", "low", "less", "told", "pauses", "body", "needs", "results", "put", "take", "sums", "loop", "walk", "deeds", "arrays", "start", "p"]
theorem sc_u_law_side : FnScope ["state", "spec", "x", "a", "w", "k", "t", "i", "order", "items", "places", "log", "low", "less", "told", "pauses", "body", "needs", "results", "put", "take", "sums", "loop", "walk", "deeds", "arrays", "start", "p"] ["state", "spec"] (defScope s_u_law_side) := ⟨rfl, rfl, rfl, by decide +kernel, rfl, by decide +kernel, by decide +kernel⟩
def der_u_law_side : { g : MS // ∀ (P : Program) (w : World) (K : PySem.W.Frag) (mg : Str → Option Value) (base : Heap) (cl : Cl) (B : Bnd K mg cl) (f : Addr) (cdv : Value) (A : Around) (outer : List PySem.Env) (s : Shared) (H : Hp) (E : XK), Room 4 (A.deeper (PyProof.Rows.envOfC d_u_law_side.qual d_u_law_side.scope s.heap.objs.size f cdv)) →
    SSs (cxOf CX0 P w K mg base ["state", "spec", "x", "a", "w", "k", "t", "i", "order", "items", "places", "log", "low", "less", "told", "pauses", "body", "needs", "results", "put", "take", "sums", "loop", "walk", "deeds", "arrays", "start", "p"] d_u_law_side.qual d_u_law_side.scope f cdv A outer s H E).nox cl [0] d_u_law_side.body g } := ⟨_, fun P w K mg base cl B f cdv A outer s H E hr => by
  have c_u_law_add := ok_u_law_add (P := P) (w := w) (base := base) B (hr.mono (by decide : 3 ≤ 4))
  have c_u_law_needs := ok_u_law_needs (P := P) (w := w) (base := base) B (hr.mono (by decide : 1 ≤ 4))
  have c_u_law_num := ok_u_law_num (P := P) (w := w) (base := base) B (hr.mono (by decide : 1 ≤ 4))
  have c_u_law_words := ok_u_law_words (P := P) (w := w) (base := base) B (hr.mono (by decide : 3 ≤ 4))
  exact (ss_cons (ss_unp (so_call c_u_law_words (by decide) (sa_lend 0 (pv 0) (sa_cons (sd_int.so) sa_nil))).sd (sg_tup (n := 6) (sgs_cons (sg_name 2 (pg_name sc_u_law_side.nd (by rfl) (by first | exact Or.inl rfl | exact Or.inr rfl))) (sgs_cons (sg_name 3 (pg_name sc_u_law_side.nd (by rfl) (by first | exact Or.inl rfl | exact Or.inr rfl))) (sgs_cons (sg_name 4 (pg_name sc_u_law_side.nd (by rfl) (by first | exact Or.inl rfl | exact Or.inr rfl))) (sgs_cons (sg_name 5 (pg_name sc_u_law_side.nd (by rfl) (by first | exact Or.inl rfl | exact Or.inr rfl))) (sgs_cons (sg_name 6 (pg_name sc_u_law_side.nd (by rfl) (by first | exact Or.inl rfl | exact Or.inr rfl))) (sgs_cons (sg_name 7 (pg_name sc_u_law_side.nd (by rfl) (by first | exact Or.inl rfl | exact Or.inr rfl))) sgs_nil))))))))
    (ss_cons (ss_set 8 ((sd_slice (so_lst (sds_cons (sd_tup (sds_cons sd_str (sds_cons (sd_var 3 (pv 3)) sds_nil))) (sds_cons (sd_tup (sds_cons sd_str (sds_cons (sd_var 4 (pv 4)) sds_nil))) sds_nil))).sd spo_none (spo_some (sd_addG sd_int (sd_ixG (u1 hr.units) (sd_var 1 (pv 1)) sd_str)))).so) sc_u_law_side.nd)
    (ss_cons (ss_if (st_tru (sd_ixG (u1 hr.units) (sd_var 1 (pv 1)) sd_str)) (ss_one (ss_set 8 ((sd_rev (sd_var 8 (pv 8))).so) sc_u_law_side.nd)) ss_nil)
    (ss_cons (ss_set 9 ((sd_addG (sd_tup (sds_cons (sd_tup (sds_cons sd_str (sds_cons (sd_var 2 (pv 2)) sds_nil))) sds_nil)) (sd_tuple B.n_tuple (sd_var 8 (pv 8)))).so) sc_u_law_side.nd)
    (ss_cons (ss_set 10 ((sd_tup (sds_cons (sd_tup (sds_cons sd_str (sds_cons (sd_var 6 (pv 6)) sds_nil))) (sds_cons (sd_tup (sds_cons sd_str (sds_cons (sd_var 7 (pv 7)) sds_nil))) sds_nil))).so) sc_u_law_side.nd)
    (ss_cons (ss_set 11 ((sd_mulG (sd_tup (sds_cons (sd_tup (sds_cons sd_str (sds_cons (sd_tup (sds_cons sd_str (sds_cons (sd_var 5 (pv 5)) sds_nil))) (sds_cons (sd_var 4 (pv 4)) sds_nil)))) sds_nil)) (sd_ixG (u1 hr.units) (sd_var 1 (pv 1)) sd_str)).so) sc_u_law_side.nd)
    (ss_cons (ss_set 12 ((so_callD c_u_law_num (sds_cons (sd_ixG (u1 hr.units) (sd_var 1 (pv 1)) sd_str) sds_nil)).sd.so) sc_u_law_side.nd)
    (ss_cons (ss_set 13 ((sd_tup (sds_cons sd_str (sds_cons (sd_tup (sds_cons sd_str (sds_cons (sd_var 12 (pv 12)) (sds_cons (sd_tup (sds_cons sd_str (sds_cons (sd_var 2 (pv 2)) sds_nil))) sds_nil)))) (sds_cons (sd_tup (sds_cons (so_callD c_u_law_add (sds_cons (sd_var 2 (pv 2)) (sds_cons (sd_neg (sd_ixG (u1 hr.units) (sd_var 1 (pv 1)) sd_str)) sds_nil))).sd sds_nil)) (sds_cons (sd_tup sds_nil) sds_nil))))).so) sc_u_law_side.nd)
    (ss_cons (ss_set 14 ((sd_tup (sds_cons sd_str (sds_cons (sd_tup (sds_cons sd_str (sds_cons (sd_var 2 (pv 2)) sds_nil))) (sds_cons (sd_var 12 (pv 12)) sds_nil)))).so) sc_u_law_side.nd)
    (ss_cons (ss_if (st_ne hr.units (sd_ixG (u1 hr.units) (sd_var 1 (pv 1)) sd_str) sd_int) (ss_one (ss_set 14 ((sd_tup (sds_cons sd_str (sds_cons (sd_var 3 (pv 3)) sds_nil))).so) sc_u_law_side.nd)) ss_nil)
    (ss_cons (ss_set 15 ((sd_mulG (sd_tup (sds_cons (sd_tup (sds_cons sd_str sds_nil)) sds_nil)) (sd_ixG (u1 hr.units) (sd_var 1 (pv 1)) sd_str)).so) sc_u_law_side.nd)
    (ss_cons (ss_set 16 ((sd_addG (sd_addG (sd_tup (sds_cons (sd_tup (sds_cons sd_str (sds_cons (sd_tup (sds_cons sd_str (sds_cons (sd_var 5 (pv 5)) sds_nil))) (sds_cons (sd_var 3 (pv 3)) sds_nil)))) sds_nil)) (sd_var 11 (pv 11))) (sd_tup (sds_cons (so_callD c_u_law_add (sds_cons (sd_var 2 (pv 2)) (sds_cons (sd_ixG (u1 hr.units) (sd_var 1 (pv 1)) sd_str) sds_nil))).sd (sds_cons (sd_tup (sds_cons sd_str (sds_cons (sd_tup (sds_cons (sd_tup (sds_cons sd_str (sds_cons (sd_var 2 (pv 2)) sds_nil))) (sds_cons (sd_var 14 (pv 14)) sds_nil))) sds_nil))) sds_nil)))).so) sc_u_law_side.nd)
    (ss_cons (ss_set 17 ((so_callD c_u_law_needs (sds_cons (sd_ixG (u1 hr.units) (sd_var 1 (pv 1)) sd_str) (sds_cons (sd_var 5 (pv 5)) sds_nil))).sd.so) sc_u_law_side.nd)
    (ss_cons (ss_set 18 ((sd_tup (sds_cons sd_str (sds_cons sd_str sds_nil))).so) sc_u_law_side.nd)
    (ss_cons (ss_set 19 ((sd_tup (sds_cons (sd_addG sd_str (sd_ixG (u1 hr.units) (sd_var 1 (pv 1)) sd_str)) (sds_cons (sd_addG (sd_var 9 (pv 9)) (sd_tup (sds_cons (sd_tup (sds_cons sd_str (sds_cons (sd_var 5 (pv 5)) sds_nil))) sds_nil))) (sds_cons (sd_var 18 (pv 18)) (sds_cons (sd_var 10 (pv 10)) (sds_cons (sd_var 17 (pv 17)) (sds_cons (sd_tup sds_nil) (sds_cons (sd_tup sds_nil) (sds_cons (sd_tup sds_nil) (sds_cons (sd_var 16 (pv 16)) sds_nil)))))))))).so) sc_u_law_side.nd)
    (ss_cons (ss_set 16 ((sd_addG (sd_addG (sd_tup (sds_cons (sd_tup (sds_cons sd_str (sds_cons (sd_var 6 (pv 6)) (sds_cons (sd_var 3 (pv 3)) sds_nil)))) (sds_cons (sd_var 13 (pv 13)) sds_nil))) (sd_var 15 (pv 15))) (sd_tup (sds_cons (sd_tup (sds_cons sd_str (sds_cons (sd_tup (sds_cons (sd_tup (sds_cons sd_str (sds_cons (sd_var 2 (pv 2)) sds_nil))) (sds_cons (sd_tup (sds_cons sd_str (sds_cons (sd_var 6 (pv 6)) sds_nil))) sds_nil))) sds_nil))) sds_nil))).so) sc_u_law_side.nd)
    (ss_cons (ss_set 20 ((sd_tup (sds_cons (sd_addG sd_str (sd_ixG (u1 hr.units) (sd_var 1 (pv 1)) sd_str)) (sds_cons (sd_var 9 (pv 9)) (sds_cons (sd_var 18 (pv 18)) (sds_cons (sd_var 10 (pv 10)) (sds_cons (sd_tup sds_nil) (sds_cons (sd_tup sds_nil) (sds_cons (sd_tup sds_nil) (sds_cons (sd_tup sds_nil) (sds_cons (sd_var 16 (pv 16)) sds_nil)))))))))).so) sc_u_law_side.nd)
    (ss_cons (ss_set 21 ((sd_tup (sds_cons sd_str (sds_cons (sd_tup (sds_cons (sd_tup (sds_cons (sd_var 6 (pv 6)) (sds_cons (sd_tup (sds_cons sd_str (sds_cons (sd_tup (sds_cons sd_str (sds_cons (sd_var 6 (pv 6)) sds_nil))) (sds_cons (sd_tup (sds_cons sd_str (sds_cons (sd_var 3 (pv 3)) (sds_cons (sd_tup (sds_cons sd_str (sds_cons (sd_var 7 (pv 7)) sds_nil))) sds_nil)))) sds_nil)))) sds_nil))) sds_nil)) sds_nil))).so) sc_u_law_side.nd)
    (ss_cons (ss_set 22 ((sd_tup (sds_cons sd_str (sds_cons (sd_tup (sds_cons sd_str (sds_cons (sd_tup (sds_cons sd_str (sds_cons (sd_var 7 (pv 7)) sds_nil))) (sds_cons (sd_tup (sds_cons sd_str (sds_cons (sd_var 3 (pv 3)) sds_nil))) sds_nil)))) (sds_cons (sd_tup (sds_cons (sd_var 21 (pv 21)) (sds_cons (so_callD c_u_law_add (sds_cons (sd_var 7 (pv 7)) (sds_cons sd_int sds_nil))).sd sds_nil))) sds_nil)))).so) sc_u_law_side.nd)
    (ss_cons (ss_set 16 ((sd_tup (sds_cons (sd_var 22 (pv 22)) (sds_cons (sd_tup (sds_cons sd_str (sds_cons (sd_tup (sds_cons (sd_tup (sds_cons sd_str (sds_cons (sd_var 2 (pv 2)) sds_nil))) (sds_cons (sd_tup (sds_cons sd_str (sds_cons (sd_var 6 (pv 6)) sds_nil))) sds_nil))) sds_nil))) sds_nil))).so) sc_u_law_side.nd)
    (ss_cons (ss_set 23 ((sd_tup (sds_cons (sd_addG sd_str (sd_ixG (u1 hr.units) (sd_var 1 (pv 1)) sd_str)) (sds_cons (sd_var 9 (pv 9)) (sds_cons (sd_var 18 (pv 18)) (sds_cons (sd_var 10 (pv 10)) (sds_cons (sd_tup sds_nil) (sds_cons (sd_tup sds_nil) (sds_cons (sd_tup sds_nil) (sds_cons (sd_tup sds_nil) (sds_cons (sd_var 16 (pv 16)) sds_nil)))))))))).so) sc_u_law_side.nd)
    (ss_cons (ss_set 24 ((sd_slice (so_lst (sds_cons (sd_var 19 (pv 19)) (sds_cons (sd_var 20 (pv 20)) (sds_cons (sd_var 23 (pv 23)) sds_nil)))).sd spo_none (spo_some (sd_ixG (u1 hr.units) (sd_var 1 (pv 1)) sd_str))).so) sc_u_law_side.nd)
    (ss_cons (ss_set 25 ((sd_len B.n_len (sd_var 8 (pv 8))).so) sc_u_law_side.nd)
    (ss_cons (ss_set 26 ((sd_addG (sd_tup (sds_cons (sd_ixG (u1 hr.units) (sd_var 1 (pv 1)) sd_str) sds_nil)) (sd_mulG (sd_tup (sds_cons (sd_tup sds_nil) sds_nil)) (sd_var 25 (pv 25)))).so) sc_u_law_side.nd)
    (ss_one (ss_ret ((sd_tup (sds_cons (sd_tuple B.n_tuple (sd_var 24 (pv 24))) (sds_cons (sd_tup (sds_cons sd_int (sds_cons (sd_var 25 (pv 25)) (sds_cons (sd_tup sds_nil) (sds_cons (sd_tuple B.n_tuple (so_comp (own := [("p", 27)]) (si_seq (sd_var 24 (pv 24))) (blkOk_by (show blkC LN_u_law_side d_u_law_side.scope _ _ = true by decide +kernel)) (fun s H C cs fp => (sg_name 27 (pg_name sc_u_law_side.nd (by rfl) (by first | exact Or.inl rfl | exact Or.inr rfl)))) (fun s H C cs fp => sts_nil) (fun s H C cs fp => (sd_ixG (u1 hr.units) (sd_var 27 (pv 27)) sd_int)) sc_u_law_side.nd).sd) (sds_cons (sd_var 26 (pv 26)) sds_nil)))))) sds_nil))).so)))))))))))))))))))))))))))⟩
def c_u_law_side : Fn := runDef 2 28 [0] der_u_law_side.1
theorem ok_u_law_side {P : Program} {w : World} {K : PySem.W.Frag} {mg : Str → Option Value} {base : Heap} {cl : Cl} {A : Around} (B : Bnd K mg cl) (hr : Room 5 A) : Callee P w K mg base A cl "_law_side" c_u_law_side := by
  obtain ⟨f, fd, F, hm⟩ := B.f_u_law_side.ex
  exact ⟨_, _, ["state", "spec"], _, (def_ok F sc_u_law_side rfl rfl (by decide) fun cdv A outer s H E hr => der_u_law_side.2 P w K mg base cl B f cdv A outer s H E hr : FnOk P w K mg base CX0 5 f fd _ _), hr, hm, F.kp, (F.bindsN fun _ _ _ _ _ _ us hl => match us, hl with | [_, _], _ => rfl)⟩
/-! is_tuple -/
abbrev LN_is_tuple : List Str := ["datum", "many"]
theorem sc_is_tuple : FnScope ["datum", "many"] ["datum", "many"] (defScope s_is_tuple) := ⟨rfl, rfl, rfl, by decide +kernel, rfl, by decide +kernel, by decide +kernel⟩
def der_is_tuple : { g : MS // ∀ (P : Program) (w : World) (K : PySem.W.Frag) (mg : Str → Option Value) (base : Heap) (cl : Cl) (B : Bnd K mg cl) (f : Addr) (cdv : Value) (A : Around) (outer : List PySem.Env) (s : Shared) (H : Hp) (E : XK), Room 0 (A.deeper (PyProof.Rows.envOfC d_is_tuple.qual d_is_tuple.scope s.heap.objs.size f cdv)) →
    SSs (cxOf CX0 P w K mg base ["datum", "many"] d_is_tuple.qual d_is_tuple.scope f cdv A outer s H E).nox cl [] d_is_tuple.body g } := ⟨_, fun P w K mg base cl B f cdv A outer s H E hr => by
  exact (ss_one (ss_ret ((sd_and (sd_isi "tuple" B.n_isinstance (sd_var 0 (pv 0)) B.n_tuple (by decide +kernel)) (sd_one (sd_eq hr.units (sd_len B.n_len (sd_var 0 (pv 0))) (sd_var 1 (pv 1))))).so)))⟩
def c_is_tuple : Fn := runDef 2 2 [] der_is_tuple.1
theorem ok_is_tuple {P : Program} {w : World} {K : PySem.W.Frag} {mg : Str → Option Value} {base : Heap} {cl : Cl} {A : Around} (B : Bnd K mg cl) (hr : Room 1 A) : Callee P w K mg base A cl "is_tuple" c_is_tuple := by
  obtain ⟨f, fd, F, hm⟩ := B.f_is_tuple.ex
  exact ⟨_, _, ["datum", "many"], _, (def_ok F sc_is_tuple rfl rfl (by decide) fun cdv A outer s H E hr => der_is_tuple.2 P w K mg base cl B f cdv A outer s H E hr : FnOk P w K mg base CX0 1 f fd _ _), hr, hm, F.kp, (F.bindsN fun _ _ _ _ _ _ us hl => match us, hl with | [_, _], _ => rfl)⟩
/-! size_of -/
abbrev LN_size_of : List Str := ["part"]
theorem sc_size_of : FnScope ["part"] ["part"] (defScope s_size_of) := ⟨rfl, rfl, rfl, by decide +kernel, rfl, by decide +kernel, by decide +kernel⟩
def der_size_of : { g : MS // ∀ (P : Program) (w : World) (K : PySem.W.Frag) (mg : Str → Option Value) (base : Heap) (cl : Cl) (B : Bnd K mg cl) (f : Addr) (cdv : Value) (A : Around) (outer : List PySem.Env) (s : Shared) (H : Hp) (E : XK), Room 0 (A.deeper (PyProof.Rows.envOfC d_size_of.qual d_size_of.scope s.heap.objs.size f cdv)) →
    SSs (cxOf CX0 P w K mg base ["part"] d_size_of.qual d_size_of.scope f cdv A outer s H E).nox cl [] d_size_of.body g } := ⟨_, fun P w K mg base cl B f cdv A outer s H E hr => by
  exact (ss_one (ss_ret ((sd_addG (sd_ixG (u1 hr.units) (sd_var 0 (pv 0)) sd_int) (sd_ixG (u1 hr.units) (sd_var 0 (pv 0)) sd_int)).so)))⟩
def c_size_of : Fn := runDef 1 1 [] der_size_of.1
theorem ok_size_of {P : Program} {w : World} {K : PySem.W.Frag} {mg : Str → Option Value} {base : Heap} {cl : Cl} {A : Around} (B : Bnd K mg cl) (hr : Room 1 A) : Callee P w K mg base A cl "size_of" c_size_of := by
  obtain ⟨f, fd, F, hm⟩ := B.f_size_of.ex
  exact ⟨_, _, ["part"], _, (def_ok F sc_size_of rfl rfl (by decide) fun cdv A outer s H E hr => der_size_of.2 P w K mg base cl B f cdv A outer s H E hr : FnOk P w K mg base CX0 1 f fd _ _), hr, hm, F.kp, (F.bindsN fun _ _ _ _ _ _ us hl => match us, hl with | [_], _ => rfl)⟩
/-! is_integer -/
abbrev LN_is_integer : List Str := ["datum"]
theorem sc_is_integer : FnScope ["datum"] ["datum"] (defScope s_is_integer) := ⟨rfl, rfl, rfl, by decide +kernel, rfl, by decide +kernel, by decide +kernel⟩
def der_is_integer : { g : MS // ∀ (P : Program) (w : World) (K : PySem.W.Frag) (mg : Str → Option Value) (base : Heap) (cl : Cl) (B : Bnd K mg cl) (f : Addr) (cdv : Value) (A : Around) (outer : List PySem.Env) (s : Shared) (H : Hp) (E : XK), Room 0 (A.deeper (PyProof.Rows.envOfC d_is_integer.qual d_is_integer.scope s.heap.objs.size f cdv)) →
    SSs (cxOf CX0 P w K mg base ["datum"] d_is_integer.qual d_is_integer.scope f cdv A outer s H E).nox cl [] d_is_integer.body g } := ⟨_, fun P w K mg base cl B f cdv A outer s H E hr => by
  exact (ss_one (ss_ret ((sd_and (sd_isi "int" B.n_isinstance (sd_var 0 (pv 0)) B.n_int (by decide +kernel)) (sd_one (sd_not (sd_isi "bool" B.n_isinstance (sd_var 0 (pv 0)) B.n_bool (by decide +kernel))))).so)))⟩
def c_is_integer : Fn := runDef 1 1 [] der_is_integer.1
theorem ok_is_integer {P : Program} {w : World} {K : PySem.W.Frag} {mg : Str → Option Value} {base : Heap} {cl : Cl} {A : Around} (B : Bnd K mg cl) (hr : Room 1 A) : Callee P w K mg base A cl "is_integer" c_is_integer := by
  obtain ⟨f, fd, F, hm⟩ := B.f_is_integer.ex
  exact ⟨_, _, ["datum"], _, (def_ok F sc_is_integer rfl rfl (by decide) fun cdv A outer s H E hr => der_is_integer.2 P w K mg base cl B f cdv A outer s H E hr : FnOk P w K mg base CX0 1 f fd _ _), hr, hm, F.kp, (F.bindsN fun _ _ _ _ _ _ us hl => match us, hl with | [_], _ => rfl)⟩
/-! is_count -/
abbrev LN_is_count : List Str := ["datum"]
theorem sc_is_count : FnScope ["datum"] ["datum"] (defScope s_is_count) := ⟨rfl, rfl, rfl, by decide +kernel, rfl, by decide +kernel, by decide +kernel⟩
def der_is_count : { g : MS // ∀ (P : Program) (w : World) (K : PySem.W.Frag) (mg : Str → Option Value) (base : Heap) (cl : Cl) (B : Bnd K mg cl) (f : Addr) (cdv : Value) (A : Around) (outer : List PySem.Env) (s : Shared) (H : Hp) (E : XK), Room 2 (A.deeper (PyProof.Rows.envOfC d_is_count.qual d_is_count.scope s.heap.objs.size f cdv)) →
    SSs (cxOf CX0 P w K mg base ["datum"] d_is_count.qual d_is_count.scope f cdv A outer s H E).nox cl [] d_is_count.body g } := ⟨_, fun P w K mg base cl B f cdv A outer s H E hr => by
  have c_is_integer := ok_is_integer (P := P) (w := w) (base := base) B (hr.mono (by decide : 1 ≤ 2))
  exact (ss_one (ss_ret ((sd_and (so_callD c_is_integer (sds_cons (sd_var 0 (pv 0)) sds_nil)).sd (sd_one (sd_ge (sd_var 0 (pv 0)) sd_int))).so)))⟩
def c_is_count : Fn := runDef 1 1 [] der_is_count.1
theorem ok_is_count {P : Program} {w : World} {K : PySem.W.Frag} {mg : Str → Option Value} {base : Heap} {cl : Cl} {A : Around} (B : Bnd K mg cl) (hr : Room 3 A) : Callee P w K mg base A cl "is_count" c_is_count := by
  obtain ⟨f, fd, F, hm⟩ := B.f_is_count.ex
  exact ⟨_, _, ["datum"], _, (def_ok F sc_is_count rfl rfl (by decide) fun cdv A outer s H E hr => der_is_count.2 P w K mg base cl B f cdv A outer s H E hr : FnOk P w K mg base CX0 3 f fd _ _), hr, hm, F.kp, (F.bindsN fun _ _ _ _ _ _ us hl => match us, hl with | [_], _ => rfl)⟩
/-! is_converter -/
abbrev LN_is_converter : List Str := ["pair", "datum", "part", "other", "proc", "kinds", "many", "item", "place"]
theorem sc_is_converter : FnScope ["pair", "datum", "part", "other", "proc", "kinds", "many", "item", "place"] ["pair", "datum"] (defScope s_is_converter) := ⟨rfl, rfl, rfl, by decide +kernel, rfl, by decide +kernel, by decide +kernel⟩
def der_is_converter : { g : MS // ∀ (P : Program) (w : World) (K : PySem.W.Frag) (mg : Str → Option Value) (base : Heap) (cl : Cl) (B : Bnd K mg cl) (f : Addr) (cdv : Value) (A : Around) (outer : List PySem.Env) (s : Shared) (H : Hp) (E : XK), Room 4 (A.deeper (PyProof.Rows.envOfC d_is_converter.qual d_is_converter.scope s.heap.objs.size f cdv)) →
    SSs (cxOf CX0 P w K mg base ["pair", "datum", "part", "other", "proc", "kinds", "many", "item", "place"] d_is_converter.qual d_is_converter.scope f cdv A outer s H E).nox cl [] d_is_converter.body g } := ⟨_, fun P w K mg base cl B f cdv A outer s H E hr => by
  have c_is_count := ok_is_count (P := P) (w := w) (base := base) B (hr.mono (by decide : 3 ≤ 4))
  have c_is_tuple := ok_is_tuple (P := P) (w := w) (base := base) B (hr.mono (by decide : 1 ≤ 4))
  have c_size_of := ok_size_of (P := P) (w := w) (base := base) B (hr.mono (by decide : 1 ≤ 4))
  have c_proc_named := ok_proc_named (P := P) (w := w) (base := base) B (hr.mono (by decide : 1 ≤ 4))
  exact (ss_cons (ss_if (SW.st (sw_or (st_not (st_tru (so_callD c_is_tuple (sds_cons (sd_var 1 (pv 1)) (sds_cons sd_int sds_nil))).sd)) (sw_or1 (st_notIn (u1 hr.units) (sd_ixG (u1 hr.units) (sd_var 1 (pv 1)) sd_int) (so_comp (own := [("proc", 4)]) (si_seq (sd_ixG (u1 hr.units) (sd_attr (ok := ok_cores) (B.at_cores) (sd_var 0 (pv 0))) sd_int)) (blkOk_by (show blkC LN_is_converter d_is_converter.scope _ _ = true by decide +kernel)) (fun s H C cs fp => (sg_name 4 (pg_name sc_is_converter.nd (by rfl) (by first | exact Or.inl rfl | exact Or.inr rfl)))) (fun s H C cs fp => sts_nil) (fun s H C cs fp => (sd_ixG (u1 hr.units) (sd_var 4 (pv 4)) sd_int)) sc_is_converter.nd).sd)))) (ss_one (ss_ret (sd_bl.so))) ss_nil)
    (ss_cons (ss_unp (sd_attr (ok := ok_parts) (B.at_parts) (sd_var 0 (pv 0))) (sg_tup (n := 2) (sgs_cons (sg_name 2 (pg_name sc_is_converter.nd (by rfl) (by first | exact Or.inl rfl | exact Or.inr rfl))) (sgs_cons (sg_name 3 (pg_name sc_is_converter.nd (by rfl) (by first | exact Or.inl rfl | exact Or.inr rfl))) sgs_nil))))
    (ss_cons (ss_set 4 ((so_callD c_proc_named (sds_cons (sd_ixG (u1 hr.units) (sd_attr (ok := ok_cores) (B.at_cores) (sd_var 0 (pv 0))) sd_int) (sds_cons (sd_ixG (u1 hr.units) (sd_var 1 (pv 1)) sd_int) sds_nil))).sd.so) sc_is_converter.nd)
    (ss_cons (SS.fz (ss_setComp 5 (own := [("item", 7)]) (si_seq (sd_ixG (u1 hr.units) (sd_var 4 (pv 4)) sd_int)) (blkOk_by (show blkC LN_is_converter d_is_converter.scope _ _ = true by decide +kernel)) (fun s H C cs fp => (sg_name 7 (pg_name sc_is_converter.nd (by rfl) (by first | exact Or.inl rfl | exact Or.inr rfl)))) (fun s H C cs fp => sts_nil) (fun s H C cs fp => (sd_ixG (u1 hr.units) (sd_var 7 (pv 7)) sd_int)) sc_is_converter.nd))
    (ss_cons (ss_if (st_ne hr.units (sd_ixG (u1 hr.units) (sd_var 4 (pv 4)) sd_int) (sd_tup sds_nil)) (ss_one (ss_ret (sd_bl.so))) ss_nil)
    (ss_cons (ss_if (SW.st (sw_or (st_ne hr.units (sd_slice (sd_var 5 (pv 5)) spo_none (spo_some (so_callD c_size_of (sds_cons (sd_var 2 (pv 2)) sds_nil)).sd)) (sd_addG (sd_repL (so_lst (sds_cons sd_str sds_nil)).sd (sd_ixG (u1 hr.units) (sd_var 2 (pv 2)) sd_int)) (sd_repL (so_lst (sds_cons sd_str sds_nil)).sd (sd_ixG (u1 hr.units) (sd_var 2 (pv 2)) sd_int)))) (sw_or1 (st_in (u1 hr.units) sd_str (sd_slice (sd_var 5 (pv 5)) (spo_some (so_callD c_size_of (sds_cons (sd_var 2 (pv 2)) sds_nil)).sd) spo_none))))) (ss_one (ss_ret (sd_bl.so))) ss_nil)
    (ss_cons (ss_if (SW.st (sw_or (st_ne hr.units (sd_len B.n_len (sd_ixG (u1 hr.units) (sd_var 4 (pv 4)) sd_int)) (sd_ixG (u1 hr.units) (sd_var 3 (pv 3)) sd_int)) (sw_or1 (st_not (st_tru (so_callD c_is_tuple (sds_cons (sd_ixG (u1 hr.units) (sd_var 1 (pv 1)) sd_int) (sds_cons (sd_ixG (u1 hr.units) (sd_var 3 (pv 3)) sd_int) sds_nil))).sd))))) (ss_one (ss_ret (sd_bl.so))) ss_nil)
    (ss_cons (ss_set 6 ((sd_sub (sd_len B.n_len (sd_var 5 (pv 5))) (sd_ixG (u1 hr.units) (sd_var 2 (pv 2)) sd_int)).so) sc_is_converter.nd)
    (ss_one (ss_ret ((sd_and (sd_all B.n_all (so_comp (own := [("place", 8)]) (si_seq (sd_ixG (u1 hr.units) (sd_var 1 (pv 1)) sd_int)) (blkOk_by (show blkC LN_is_converter d_is_converter.scope _ _ = true by decide +kernel)) (fun s H C cs fp => (sg_name 8 (pg_name sc_is_converter.nd (by rfl) (by first | exact Or.inl rfl | exact Or.inr rfl)))) (fun s H C cs fp => sts_nil) (fun s H C cs fp => (sd_and (so_callD c_is_count (sds_cons (sd_var 8 (pv 8)) sds_nil)).sd (sd_one (sd_lt (sd_var 8 (pv 8)) (sd_var 6 (pv 6)))))) sc_is_converter.nd).sd) (sd_one (sd_eq hr.units (sd_lenSet B.n_len B.n_set (sd_ixG (u1 hr.units) (sd_var 1 (pv 1)) sd_int)) (sd_len B.n_len (sd_ixG (u1 hr.units) (sd_var 1 (pv 1)) sd_int))))).so)))))))))))⟩
def c_is_converter : Fn := runDef 2 9 [] der_is_converter.1
theorem ok_is_converter {P : Program} {w : World} {K : PySem.W.Frag} {mg : Str → Option Value} {base : Heap} {cl : Cl} {A : Around} (B : Bnd K mg cl) (hr : Room 5 A) : Callee P w K mg base A cl "is_converter" c_is_converter := by
  obtain ⟨f, fd, F, hm⟩ := B.f_is_converter.ex
  exact ⟨_, _, ["pair", "datum"], _, (def_ok F sc_is_converter rfl rfl (by decide) fun cdv A outer s H E hr => der_is_converter.2 P w K mg base cl B f cdv A outer s H E hr : FnOk P w K mg base CX0 5 f fd _ _), hr, hm, F.kp, (F.bindsN fun _ _ _ _ _ _ us hl => match us, hl with | [_, _], _ => rfl)⟩
/-! variable -/
abbrev LN_variable : List Str := ["name"]
theorem sc_variable : FnScope ["name"] ["name"] (defScope s_variable) := ⟨rfl, rfl, rfl, by decide +kernel, rfl, by decide +kernel, by decide +kernel⟩
def der_variable : { g : MS // ∀ (P : Program) (w : World) (K : PySem.W.Frag) (mg : Str → Option Value) (base : Heap) (cl : Cl) (B : Bnd K mg cl) (f : Addr) (cdv : Value) (A : Around) (outer : List PySem.Env) (s : Shared) (H : Hp) (E : XK), Room 0 (A.deeper (PyProof.Rows.envOfC d_variable.qual d_variable.scope s.heap.objs.size f cdv)) →
    SSs (cxOf CX0 P w K mg base ["name"] d_variable.qual d_variable.scope f cdv A outer s H E).nox cl [] d_variable.body g } := ⟨_, fun P w K mg base cl B f cdv A outer s H E hr => by
  exact (ss_one (ss_ret ((sd_tup (sds_cons sd_int (sds_cons (sd_tup (sds_cons (sd_tup (sds_cons (sd_var 0 (pv 0)) (sds_cons sd_int sds_nil))) sds_nil)) sds_nil))).so)))⟩
def c_variable : Fn := runDef 1 1 [] der_variable.1
theorem ok_variable {P : Program} {w : World} {K : PySem.W.Frag} {mg : Str → Option Value} {base : Heap} {cl : Cl} {A : Around} (B : Bnd K mg cl) (hr : Room 1 A) : Callee P w K mg base A cl "variable" c_variable := by
  obtain ⟨f, fd, F, hm⟩ := B.f_variable.ex
  exact ⟨_, _, ["name"], _, (def_ok F sc_variable rfl rfl (by decide) fun cdv A outer s H E hr => der_variable.2 P w K mg base cl B f cdv A outer s H E hr : FnOk P w K mg base CX0 1 f fd _ _), hr, hm, F.kp, (F.bindsN fun _ _ _ _ _ _ us hl => match us, hl with | [_], _ => rfl)⟩
/-! both_ways -/
abbrev LN_both_ways : List Str := ["f", "g"]
theorem sc_both_ways : FnScope ["f", "g"] ["f", "g"] (defScope s_both_ways) := ⟨rfl, rfl, rfl, by decide +kernel, rfl, by decide +kernel, by decide +kernel⟩
def der_both_ways : { g : MS // ∀ (P : Program) (w : World) (K : PySem.W.Frag) (mg : Str → Option Value) (base : Heap) (cl : Cl) (B : Bnd K mg cl) (f : Addr) (cdv : Value) (A : Around) (outer : List PySem.Env) (s : Shared) (H : Hp) (E : XK), Room 6 (A.deeper (PyProof.Rows.envOfC d_both_ways.qual d_both_ways.scope s.heap.objs.size f cdv)) →
    SSs (cxOf CX0 P w K mg base ["f", "g"] d_both_ways.qual d_both_ways.scope f cdv A outer s H E).nox cl [] d_both_ways.body g } := ⟨_, fun P w K mg base cl B f cdv A outer s H E hr => by
  have c_minus := ok_minus (P := P) (w := w) (base := base) B (hr.mono (by decide : 5 ≤ 6))
  exact (ss_one (ss_ret ((sd_tup (sds_cons (so_callD c_minus (sds_cons (sd_var 0 (pv 0)) (sds_cons (sd_var 1 (pv 1)) sds_nil))).sd (sds_cons (so_callD c_minus (sds_cons (sd_var 1 (pv 1)) (sds_cons (sd_var 0 (pv 0)) sds_nil))).sd sds_nil))).so)))⟩
def c_both_ways : Fn := runDef 2 2 [] der_both_ways.1
theorem ok_both_ways {P : Program} {w : World} {K : PySem.W.Frag} {mg : Str → Option Value} {base : Heap} {cl : Cl} {A : Around} (B : Bnd K mg cl) (hr : Room 7 A) : Callee P w K mg base A cl "both_ways" c_both_ways := by
  obtain ⟨f, fd, F, hm⟩ := B.f_both_ways.ex
  exact ⟨_, _, ["f", "g"], _, (def_ok F sc_both_ways rfl rfl (by decide) fun cdv A outer s H E hr => der_both_ways.2 P w K mg base cl B f cdv A outer s H E hr : FnOk P w K mg base CX0 7 f fd _ _), hr, hm, F.kp, (F.bindsN fun _ _ _ _ _ _ us hl => match us, hl with | [_, _], _ => rfl)⟩
/-! equal_states -/
abbrev LN_equal_states : List Str := ["pair", "converter", "part", "mine", "theirs", "givens", "same", "one", "other", "item"]
theorem sc_equal_states : FnScope ["pair", "converter", "part", "mine", "theirs", "givens", "same", "one", "other", "item"] ["pair", "converter"] (defScope s_equal_states) := ⟨rfl, rfl, rfl, by decide +kernel, rfl, by decide +kernel, by decide +kernel⟩
def der_equal_states : { g : MS // ∀ (P : Program) (w : World) (K : PySem.W.Frag) (mg : Str → Option Value) (base : Heap) (cl : Cl) (B : Bnd K mg cl) (f : Addr) (cdv : Value) (A : Around) (outer : List PySem.Env) (s : Shared) (H : Hp) (E : XK), Room 8 (A.deeper (PyProof.Rows.envOfC d_equal_states.qual d_equal_states.scope s.heap.objs.size f cdv)) →
    SSs (cxOf CX0 P w K mg base ["pair", "converter", "part", "mine", "theirs", "givens", "same", "one", "other", "item"] d_equal_states.qual d_equal_states.scope f cdv A outer s H E).nox cl [] d_equal_states.body g } := ⟨_, fun P w K mg base cl B f cdv A outer s H E hr => by
  have c_size_of := ok_size_of (P := P) (w := w) (base := base) B (hr.mono (by decide : 1 ≤ 8))
  have c_variable := ok_variable (P := P) (w := w) (base := base) B (hr.mono (by decide : 1 ≤ 8))
  have c_both_ways := ok_both_ways (P := P) (w := w) (base := base) B (hr.mono (by decide : 7 ≤ 8))
  have c_proc_named := ok_proc_named (P := P) (w := w) (base := base) B (hr.mono (by decide : 1 ≤ 8))
  exact (ss_cons (ss_set 2 ((sd_ixG (u1 hr.units) (sd_attr (ok := ok_parts) (B.at_parts) (sd_var 0 (pv 0))) sd_int).so) sc_equal_states.nd)
    (ss_cons (ss_set 3 ((sd_slice (sd_ixG (u1 hr.units) (so_callD c_proc_named (sds_cons (sd_ixG (u1 hr.units) (sd_attr (ok := ok_cores) (B.at_cores) (sd_var 0 (pv 0))) sd_int) (sds_cons (sd_ixG (u1 hr.units) (sd_ixG (u1 hr.units) (sd_var 2 (pv 2)) sd_int) sd_int) sds_nil))).sd sd_int) spo_none (spo_some (so_callD c_size_of (sds_cons (sd_var 2 (pv 2)) sds_nil)).sd)).so) sc_equal_states.nd)
    (ss_cons (ss_set 4 ((sd_ixG (u1 hr.units) (so_callD c_proc_named (sds_cons (sd_ixG (u1 hr.units) (sd_attr (ok := ok_cores) (B.at_cores) (sd_var 0 (pv 0))) sd_int) (sds_cons (sd_ixG (u1 hr.units) (sd_var 1 (pv 1)) sd_int) sds_nil))).sd sd_int).so) sc_equal_states.nd)
    (ss_cons (ss_set 5 (so_lst sds_nil) sc_equal_states.nd)
    (ss_cons (ss_set 6 (so_lst sds_nil) sc_equal_states.nd)
    (ss_cons (ss_for (si_zip B.n_zip (sd_var 3 (pv 3)) (sd_var 4 (pv 4))) (sg_tup (n := 2) (sgs_cons (sg_name 7 (pg_name sc_equal_states.nd (by rfl) (by first | exact Or.inl rfl | exact Or.inr rfl))) (sgs_cons (sg_name 8 (pg_name sc_equal_states.nd (by rfl) (by first | exact Or.inl rfl | exact Or.inr rfl))) sgs_nil))) (ss_one (ss_if (st_eq hr.units (sd_ixG (u1 hr.units) (sd_var 7 (pv 7)) sd_int) sd_str) (ss_one (ss_append 6 ((sd_tup (sds_cons (sd_ixG (u1 hr.units) (sd_var 7 (pv 7)) sd_int) (sds_cons (sd_ixG (u1 hr.units) (sd_var 8 (pv 8)) sd_int) sds_nil))).so) (pv 6))) (ss_one (ss_extend 5 (so_callD c_both_ways (sds_cons (so_callD c_variable (sds_cons (sd_addG (sd_addG (sd_gtxt B.k_LEFT) sd_str) (sd_ixG (u1 hr.units) (sd_var 7 (pv 7)) sd_int)) sds_nil)).sd (sds_cons (so_callD c_variable (sds_cons (sd_addG (sd_addG (sd_gtxt B.k_RIGHT) sd_str) (sd_ixG (u1 hr.units) (sd_var 8 (pv 8)) sd_int)) sds_nil)).sd sds_nil))).sd (pv 5))))))
    (ss_cons (ss_for (si_seq (sd_slice (sd_var 4 (pv 4)) (spo_some (so_callD c_size_of (sds_cons (sd_var 2 (pv 2)) sds_nil)).sd) spo_none)) (sg_name 9 (pg_name sc_equal_states.nd (by rfl) (by first | exact Or.inl rfl | exact Or.inr rfl))) (ss_cons (ss_append 5 (so_callD c_variable (sds_cons (sd_addG (sd_addG (sd_gtxt B.k_RIGHT) sd_str) (sd_ixG (u1 hr.units) (sd_var 9 (pv 9)) sd_int)) sds_nil)) (pv 5))
    (ss_one (ss_append 5 ((sd_tup (sds_cons sd_int (sds_cons (sd_tup (sds_cons (sd_tup (sds_cons (sd_addG (sd_addG (sd_gtxt B.k_RIGHT) sd_str) (sd_ixG (u1 hr.units) (sd_var 9 (pv 9)) sd_int)) (sds_cons (sd_neg sd_int) sds_nil))) sds_nil)) sds_nil))).so) (pv 5)))))
    (ss_one (ss_ret (so_tupO (sa_cons (so_move 5 (pv 5)) (sa_cons (so_move 6 (pv 6)) sa_nil))))))))))))⟩
def c_equal_states : Fn := runDef 2 10 [] der_equal_states.1
theorem ok_equal_states {P : Program} {w : World} {K : PySem.W.Frag} {mg : Str → Option Value} {base : Heap} {cl : Cl} {A : Around} (B : Bnd K mg cl) (hr : Room 9 A) : Callee P w K mg base A cl "equal_states" c_equal_states := by
  obtain ⟨f, fd, F, hm⟩ := B.f_equal_states.ex
  exact ⟨_, _, ["pair", "converter"], _, (def_ok F sc_equal_states rfl rfl (by decide) fun cdv A outer s H E hr => der_equal_states.2 P w K mg base cl B f cdv A outer s H E hr : FnOk P w K mg base CX0 9 f fd _ _), hr, hm, F.kp, (F.bindsN fun _ _ _ _ _ _ us hl => match us, hl with | [_, _], _ => rfl)⟩
/-! ask_name -/
abbrev LN_ask_name : List Str := ["mark", "name"]
theorem sc_ask_name : FnScope ["mark", "name"] ["mark", "name"] (defScope s_ask_name) := ⟨rfl, rfl, rfl, by decide +kernel, rfl, by decide +kernel, by decide +kernel⟩
def der_ask_name : { g : MS // ∀ (P : Program) (w : World) (K : PySem.W.Frag) (mg : Str → Option Value) (base : Heap) (cl : Cl) (B : Bnd K mg cl) (f : Addr) (cdv : Value) (A : Around) (outer : List PySem.Env) (s : Shared) (H : Hp) (E : XK), Room 0 (A.deeper (PyProof.Rows.envOfC d_ask_name.qual d_ask_name.scope s.heap.objs.size f cdv)) →
    SSs (cxOf CX0 P w K mg base ["mark", "name"] d_ask_name.qual d_ask_name.scope f cdv A outer s H E).nox cl [] d_ask_name.body g } := ⟨_, fun P w K mg base cl B f cdv A outer s H E hr => by
  exact (ss_one (ss_ret ((sd_if (st_eq hr.units (sd_ixG (u1 hr.units) (sd_var 1 (pv 1)) sd_int) sd_str) (sd_addG (sd_var 0 (pv 0)) (sd_var 1 (pv 1))) (sd_addG (sd_addG (sd_var 0 (pv 0)) sd_str) (sd_var 1 (pv 1)))).so)))⟩
def c_ask_name : Fn := runDef 2 2 [] der_ask_name.1
theorem ok_ask_name {P : Program} {w : World} {K : PySem.W.Frag} {mg : Str → Option Value} {base : Heap} {cl : Cl} {A : Around} (B : Bnd K mg cl) (hr : Room 1 A) : Callee P w K mg base A cl "ask_name" c_ask_name := by
  obtain ⟨f, fd, F, hm⟩ := B.f_ask_name.ex
  exact ⟨_, _, ["mark", "name"], _, (def_ok F sc_ask_name rfl rfl (by decide) fun cdv A outer s H E hr => der_ask_name.2 P w K mg base cl B f cdv A outer s H E hr : FnOk P w K mg base CX0 1 f fd _ _), hr, hm, F.kp, (F.bindsN fun _ _ _ _ _ _ us hl => match us, hl with | [_, _], _ => rfl)⟩
/-! state_inputs -/
abbrev LN_state_inputs : List Str := ["core", "part", "deed"]
theorem sc_state_inputs : FnScope ["core", "part", "deed"] ["core", "part", "deed"] (defScope s_state_inputs) := ⟨rfl, rfl, rfl, by decide +kernel, rfl, by decide +kernel, by decide +kernel⟩
def der_state_inputs : { g : MS // ∀ (P : Program) (w : World) (K : PySem.W.Frag) (mg : Str → Option Value) (base : Heap) (cl : Cl) (B : Bnd K mg cl) (f : Addr) (cdv : Value) (A : Around) (outer : List PySem.Env) (s : Shared) (H : Hp) (E : XK), Room 6 (A.deeper (PyProof.Rows.envOfC d_state_inputs.qual d_state_inputs.scope s.heap.objs.size f cdv)) →
    SSs (cxOf CX0 P w K mg base ["core", "part", "deed"] d_state_inputs.qual d_state_inputs.scope f cdv A outer s H E).nox cl [] d_state_inputs.body g } := ⟨_, fun P w K mg base cl B f cdv A outer s H E hr => by
  have c_inputs_of := ok_inputs_of (P := P) (w := w) (base := base) B (hr.mono (by decide : 5 ≤ 6))
  have c_size_of := ok_size_of (P := P) (w := w) (base := base) B (hr.mono (by decide : 1 ≤ 6))
  exact (ss_one (ss_ret ((sd_slice (so_callD c_inputs_of (sds_cons (sd_var 0 (pv 0)) (sds_cons (sd_var 2 (pv 2)) sds_nil))).sd spo_none (spo_some (so_callD c_size_of (sds_cons (sd_var 1 (pv 1)) sds_nil)).sd)).so)))⟩
def c_state_inputs : Fn := runDef 3 3 [] der_state_inputs.1
theorem ok_state_inputs {P : Program} {w : World} {K : PySem.W.Frag} {mg : Str → Option Value} {base : Heap} {cl : Cl} {A : Around} (B : Bnd K mg cl) (hr : Room 7 A) : Callee P w K mg base A cl "state_inputs" c_state_inputs := by
  obtain ⟨f, fd, F, hm⟩ := B.f_state_inputs.ex
  exact ⟨_, _, ["core", "part", "deed"], _, (def_ok F sc_state_inputs rfl rfl (by decide) fun cdv A outer s H E hr => der_state_inputs.2 P w K mg base cl B f cdv A outer s H E hr : FnOk P w K mg base CX0 7 f fd _ _), hr, hm, F.kp, (F.bindsN fun _ _ _ _ _ _ us hl => match us, hl with | [_, _, _], _ => rfl)⟩
/-! state_names -/
abbrev LN_state_names : List Str := ["core", "part"]
theorem sc_state_names : FnScope ["core", "part"] ["core", "part"] (defScope s_state_names) := ⟨rfl, rfl, rfl, by decide +kernel, rfl, by decide +kernel, by decide +kernel⟩
def der_state_names : { g : MS // ∀ (P : Program) (w : World) (K : PySem.W.Frag) (mg : Str → Option Value) (base : Heap) (cl : Cl) (B : Bnd K mg cl) (f : Addr) (cdv : Value) (A : Around) (outer : List PySem.Env) (s : Shared) (H : Hp) (E : XK), Room 8 (A.deeper (PyProof.Rows.envOfC d_state_names.qual d_state_names.scope s.heap.objs.size f cdv)) →
    SSs (cxOf CX0 P w K mg base ["core", "part"] d_state_names.qual d_state_names.scope f cdv A outer s H E).nox cl [] d_state_names.body g } := ⟨_, fun P w K mg base cl B f cdv A outer s H E hr => by
  have c_state_inputs := ok_state_inputs (P := P) (w := w) (base := base) B (hr.mono (by decide : 7 ≤ 8))
  exact (ss_one (ss_ret (so_callD c_state_inputs (sds_cons (sd_var 0 (pv 0)) (sds_cons (sd_var 1 (pv 1)) (sds_cons (sd_ixG (u1 hr.units) (sd_ixG (u1 hr.units) (sd_var 1 (pv 1)) sd_int) sd_int) sds_nil))))))⟩
def c_state_names : Fn := runDef 2 2 [] der_state_names.1
theorem ok_state_names {P : Program} {w : World} {K : PySem.W.Frag} {mg : Str → Option Value} {base : Heap} {cl : Cl} {A : Around} (B : Bnd K mg cl) (hr : Room 9 A) : Callee P w K mg base A cl "state_names" c_state_names := by
  obtain ⟨f, fd, F, hm⟩ := B.f_state_names.ex
  exact ⟨_, _, ["core", "part"], _, (def_ok F sc_state_names rfl rfl (by decide) fun cdv A outer s H E hr => der_state_names.2 P w K mg base cl B f cdv A outer s H E hr : FnOk P w K mg base CX0 9 f fd _ _), hr, hm, F.kp, (F.bindsN fun _ _ _ _ _ _ us hl => match us, hl with | [_, _], _ => rfl)⟩
/-! right_pairs -/
abbrev LN_right_pairs : List Str := ["pair", "converter", "core", "name", "places", "proc", "arrays", "outcomes", "found", "place", "length", "item", "result", "one"]
theorem sc_right_pairs : FnScope ["pair", "converter", "core", "name", "places", "proc", "arrays", "outcomes", "found", "place", "length", "item", "result", "one"] ["pair", "converter"] (defScope s_right_pairs) := ⟨rfl, rfl, rfl, by decide +kernel, rfl, by decide +kernel, by decide +kernel⟩
def der_right_pairs : { g : MS // ∀ (P : Program) (w : World) (K : PySem.W.Frag) (mg : Str → Option Value) (base : Heap) (cl : Cl) (B : Bnd K mg cl) (f : Addr) (cdv : Value) (A : Around) (outer : List PySem.Env) (s : Shared) (H : Hp) (E : XK), Room 20 (A.deeper (PyProof.Rows.envOfC d_right_pairs.qual d_right_pairs.scope s.heap.objs.size f cdv)) →
    SSs (cxOf CX0 P w K mg base ["pair", "converter", "core", "name", "places", "proc", "arrays", "outcomes", "found", "place", "length", "item", "result", "one"] d_right_pairs.qual d_right_pairs.scope f cdv A outer s H E).nox cl [] d_right_pairs.body g } := ⟨_, fun P w K mg base cl B f cdv A outer s H E hr => by
  have c_state_names := ok_state_names (P := P) (w := w) (base := base) B (hr.mono (by decide : 9 ≤ 20))
  have c_variable := ok_variable (P := P) (w := w) (base := base) B (hr.mono (by decide : 1 ≤ 20))
  have c_ask_name := ok_ask_name (P := P) (w := w) (base := base) B (hr.mono (by decide : 1 ≤ 20))
  have c_outcomes_of := ok_outcomes_of (P := P) (w := w) (base := base) B (hr.mono (by decide : 19 ≤ 20))
  have c_proc_named := ok_proc_named (P := P) (w := w) (base := base) B (hr.mono (by decide : 1 ≤ 20))
  exact (ss_cons (ss_set 2 ((sd_ixG (u1 hr.units) (sd_attr (ok := ok_cores) (B.at_cores) (sd_var 0 (pv 0))) sd_int).so) sc_right_pairs.nd)
    (ss_cons (ss_unp (sd_var 1 (pv 1)) (sg_tup (n := 2) (sgs_cons (sg_name 3 (pg_name sc_right_pairs.nd (by rfl) (by first | exact Or.inl rfl | exact Or.inr rfl))) (sgs_cons (sg_name 4 (pg_name sc_right_pairs.nd (by rfl) (by first | exact Or.inl rfl | exact Or.inr rfl))) sgs_nil))))
    (ss_cons (ss_set 5 ((so_callD c_proc_named (sds_cons (sd_var 2 (pv 2)) (sds_cons (sd_var 3 (pv 3)) sds_nil))).sd.so) sc_right_pairs.nd)
    (ss_cons (SS.fz (ss_setComp 6 (own := [("item", 11)]) (si_seq (sd_ixG (u1 hr.units) (sd_var 5 (pv 5)) sd_int)) (blkOk_by (show blkC LN_right_pairs d_right_pairs.scope _ _ = true by decide +kernel)) (fun s H C cs fp => (sg_name 11 (pg_name sc_right_pairs.nd (by rfl) (by first | exact Or.inl rfl | exact Or.inr rfl)))) (fun s H C cs fp => (sts_one (st_eq hr.units (sd_ixG (u1 hr.units) (sd_var 11 (pv 11)) sd_int) sd_str))) (fun s H C cs fp => (sd_ixG (u1 hr.units) (sd_var 11 (pv 11)) sd_int)) sc_right_pairs.nd))
    (ss_cons (ss_set 7 ((so_callD c_outcomes_of (sds_cons (sd_var 2 (pv 2)) (sds_cons (sd_var 3 (pv 3)) sds_nil))).sd.so) sc_right_pairs.nd)
    (ss_cons (ss_setComp 8 (own := [("result", 12)]) (si_seq (sd_ixG (u1 hr.units) (sd_var 5 (pv 5)) sd_int)) (blkOk_by (show blkC LN_right_pairs d_right_pairs.scope _ _ = true by decide +kernel)) (fun s H C cs fp => (sg_name 12 (pg_name sc_right_pairs.nd (by rfl) (by first | exact Or.inl rfl | exact Or.inr rfl)))) (fun s H C cs fp => sts_nil) (fun s H C cs fp => (so_callD c_variable (sds_cons (sd_addG (sd_addG (sd_gtxt B.k_RIGHT) sd_str) (sd_var 12 (pv 12))) sds_nil)).sd) sc_right_pairs.nd)
    (ss_cons (ss_for (si_seq (sd_var 4 (pv 4))) (sg_name 9 (pg_name sc_right_pairs.nd (by rfl) (by first | exact Or.inl rfl | exact Or.inr rfl))) (ss_cons (ss_set 10 ((sd_addG sd_str (sd_ixG (u1 hr.units) (sd_var 6 (pv 6)) (sd_var 9 (pv 9)))).so) sc_right_pairs.nd)
    (ss_one (ss_append 8 (so_callD c_variable (sds_cons (so_callD c_ask_name (sds_cons (sd_gtxt B.k_RIGHT) (sds_cons (sd_if (st_in (u1 hr.units) (sd_var 10 (pv 10)) (sd_var 7 (pv 7))) (sd_var 10 (pv 10)) (sd_addG sd_str (sd_var 10 (pv 10)))) sds_nil))).sd sds_nil)) (pv 8)))))
    (ss_one (ss_ret ((sd_lz B.n_list B.n_zip (sds_cons (so_comp (own := [("one", 13)]) (si_seq (so_callD c_state_names (sds_cons (sd_var 2 (pv 2)) (sds_cons (sd_ixG (u1 hr.units) (sd_attr (ok := ok_parts) (B.at_parts) (sd_var 0 (pv 0))) sd_int) sds_nil))).sd) (blkOk_by (show blkC LN_right_pairs d_right_pairs.scope _ _ = true by decide +kernel)) (fun s H C cs fp => (sg_name 13 (pg_name sc_right_pairs.nd (by rfl) (by first | exact Or.inl rfl | exact Or.inr rfl)))) (fun s H C cs fp => sts_nil) (fun s H C cs fp => (sd_addG (sd_gtxt B.k_RIGHT) (sd_var 13 (pv 13)))) sc_right_pairs.nd).sd (sds_cons (sd_take 8 (pv 8)) sds_nil))).so))))))))))⟩
def c_right_pairs : Fn := runDef 2 14 [] der_right_pairs.1
theorem ok_right_pairs {P : Program} {w : World} {K : PySem.W.Frag} {mg : Str → Option Value} {base : Heap} {cl : Cl} {A : Around} (B : Bnd K mg cl) (hr : Room 21 A) : Callee P w K mg base A cl "right_pairs" c_right_pairs := by
  obtain ⟨f, fd, F, hm⟩ := B.f_right_pairs.ex
  exact ⟨_, _, ["pair", "converter"], _, (def_ok F sc_right_pairs rfl rfl (by decide) fun cdv A outer s H E hr => der_right_pairs.2 P w K mg base cl B f cdv A outer s H E hr : FnOk P w K mg base CX0 21 f fd _ _), hr, hm, F.kp, (F.bindsN fun _ _ _ _ _ _ us hl => match us, hl with | [_, _], _ => rfl)⟩
/-! Pair.state_arrays -/
abbrev LN_Pair_state_arrays : List Str := ["self", "side", "part", "items", "item"]
theorem sc_Pair_state_arrays : FnScope ["self", "side", "part", "items", "item"] ["self", "side"] (defScope s_Pair_state_arrays) := ⟨rfl, rfl, rfl, by decide +kernel, rfl, by decide +kernel, by decide +kernel⟩
def der_Pair_state_arrays : { g : MS // ∀ (P : Program) (w : World) (K : PySem.W.Frag) (mg : Str → Option Value) (base : Heap) (cl : Cl) (B : Bnd K mg cl) (f : Addr) (cdv : Value) (A : Around) (outer : List PySem.Env) (s : Shared) (H : Hp) (E : XK), Room 2 (A.deeper (PyProof.Rows.envOfC d_Pair_state_arrays.qual d_Pair_state_arrays.scope s.heap.objs.size f cdv)) →
    SSs (cxOf CX0 P w K mg base ["self", "side", "part", "items", "item"] d_Pair_state_arrays.qual d_Pair_state_arrays.scope f cdv A outer s H E).nox cl [] d_Pair_state_arrays.body g } := ⟨_, fun P w K mg base cl B f cdv A outer s H E hr => by
  have c_size_of := ok_size_of (P := P) (w := w) (base := base) B (hr.mono (by decide : 1 ≤ 2))
  have c_proc_named := ok_proc_named (P := P) (w := w) (base := base) B (hr.mono (by decide : 1 ≤ 2))
  exact (ss_cons (ss_set 2 ((sd_ixG (u1 hr.units) (sd_attr (ok := ok_parts) (B.at_parts) (sd_var 0 (pv 0))) (sd_var 1 (pv 1))).so) sc_Pair_state_arrays.nd)
    (ss_cons (ss_set 3 ((sd_ixG (u1 hr.units) (so_callD c_proc_named (sds_cons (sd_ixG (u1 hr.units) (sd_attr (ok := ok_cores) (B.at_cores) (sd_var 0 (pv 0))) (sd_var 1 (pv 1))) (sds_cons (sd_ixG (u1 hr.units) (sd_ixG (u1 hr.units) (sd_var 2 (pv 2)) sd_int) sd_int) sds_nil))).sd sd_int).so) sc_Pair_state_arrays.nd)
    (ss_one (ss_ret (so_comp (own := [("item", 4)]) (si_seq (sd_slice (sd_var 3 (pv 3)) (spo_some (sd_ixG (u1 hr.units) (sd_var 2 (pv 2)) sd_int)) (spo_some (so_callD c_size_of (sds_cons (sd_var 2 (pv 2)) sds_nil)).sd))) (blkOk_by (show blkC LN_Pair_state_arrays d_Pair_state_arrays.scope _ _ = true by decide +kernel)) (fun s H C cs fp => (sg_name 4 (pg_name sc_Pair_state_arrays.nd (by rfl) (by first | exact Or.inl rfl | exact Or.inr rfl)))) (fun s H C cs fp => sts_nil) (fun s H C cs fp => (sd_ixG (u1 hr.units) (sd_var 4 (pv 4)) sd_int)) sc_Pair_state_arrays.nd)))))⟩
def c_Pair_state_arrays : Fn := runDef 2 5 [] der_Pair_state_arrays.1
theorem ok_Pair_state_arrays {P : Program} {w : World} {K : PySem.W.Frag} {mg : Str → Option Value} {base : Heap} {cl : Cl} {A : Around} (B : Bnd K mg cl) (hr : Room 3 A) : CalleeM P w K mg base A cl 0 "state_arrays" c_Pair_state_arrays := by
  obtain ⟨f, fd, F, hc, hm⟩ := B.f_Pair_state_arrays.ex
  exact ⟨_, _, ["self", "side"], _, (def_ok F sc_Pair_state_arrays rfl rfl (by decide) fun cdv A outer s H E hr => der_Pair_state_arrays.2 P w K mg base cl B f cdv A outer s H E hr : FnOk P w K mg base CX0 3 f fd _ _), hr, hc, hm, (F.bindsN fun _ _ _ _ _ _ us hl => match us, hl with | [_, _], _ => rfl)⟩
/-! sided -/
abbrev LN_sided : List Str := ["mark", "f", "name", "number"]
theorem sc_sided : FnScope ["mark", "f", "name", "number"] ["mark", "f"] (defScope s_sided) := ⟨rfl, rfl, rfl, by decide +kernel, rfl, by decide +kernel, by decide +kernel⟩
def der_sided : { g : MS // ∀ (P : Program) (w : World) (K : PySem.W.Frag) (mg : Str → Option Value) (base : Heap) (cl : Cl) (B : Bnd K mg cl) (f : Addr) (cdv : Value) (A : Around) (outer : List PySem.Env) (s : Shared) (H : Hp) (E : XK), Room 2 (A.deeper (PyProof.Rows.envOfC d_sided.qual d_sided.scope s.heap.objs.size f cdv)) →
    SSs (cxOf CX0 P w K mg base ["mark", "f", "name", "number"] d_sided.qual d_sided.scope f cdv A outer s H E).nox cl [] d_sided.body g } := ⟨_, fun P w K mg base cl B f cdv A outer s H E hr => by
  have c_form := ok_form (P := P) (w := w) (base := base) B (hr.mono (by decide : 1 ≤ 2))
  exact (ss_one (ss_ret (so_call c_form (by decide) (sa_cons ((sd_ixG (u1 hr.units) (sd_var 1 (pv 1)) sd_int).so) (sa_cons (so_comp (own := [("name", 2), ("number", 3)]) (si_seq (sd_ixG (u1 hr.units) (sd_var 1 (pv 1)) sd_int)) (blkOk_by (show blkC LN_sided d_sided.scope _ _ = true by decide +kernel)) (fun s H C cs fp => (sg_tup (n := 2) (sgs_cons (sg_name 2 (pg_name sc_sided.nd (by rfl) (by first | exact Or.inl rfl | exact Or.inr rfl))) (sgs_cons (sg_name 3 (pg_name sc_sided.nd (by rfl) (by first | exact Or.inl rfl | exact Or.inr rfl))) sgs_nil)))) (fun s H C cs fp => sts_nil) (fun s H C cs fp => (sd_tup (sds_cons (sd_addG (sd_var 0 (pv 0)) (sd_var 2 (pv 2))) (sds_cons (sd_var 3 (pv 3)) sds_nil)))) sc_sided.nd) sa_nil)))))⟩
def c_sided : Fn := runDef 2 4 [] der_sided.1
theorem ok_sided {P : Program} {w : World} {K : PySem.W.Frag} {mg : Str → Option Value} {base : Heap} {cl : Cl} {A : Around} (B : Bnd K mg cl) (hr : Room 3 A) : Callee P w K mg base A cl "sided" c_sided := by
  obtain ⟨f, fd, F, hm⟩ := B.f_sided.ex
  exact ⟨_, _, ["mark", "f"], _, (def_ok F sc_sided rfl rfl (by decide) fun cdv A outer s H E hr => der_sided.2 P w K mg base cl B f cdv A outer s H E hr : FnOk P w K mg base CX0 3 f fd _ _), hr, hm, F.kp, (F.bindsN fun _ _ _ _ _ _ us hl => match us, hl with | [_, _], _ => rfl)⟩
/-! exchange_claim -/
abbrev LN_exchange_claim : List Str := ["pair", "converter", "relation", "forms", "arrays", "givens", "same", "pairs", "due", "asks", "mine", "theirs", "keep", "item", "f", "one", "other"]
theorem sc_exchange_claim : FnScope ["pair", "converter", "relation", "forms", "arrays", "givens", "same", "pairs", "due", "asks", "mine", "theirs", "keep", "item", "f", "one", "other"] ["pair", "converter", "relation"] (defScope s_exchange_claim) := ⟨rfl, rfl, rfl, by decide +kernel, rfl, by decide +kernel, by decide +kernel⟩
def der_exchange_claim : { g : MS // ∀ (P : Program) (w : World) (K : PySem.W.Frag) (mg : Str → Option Value) (base : Heap) (cl : Cl) (B : Bnd K mg cl) (f : Addr) (cdv : Value) (A : Around) (outer : List PySem.Env) (s : Shared) (H : Hp) (E : XK), Room 22 (A.deeper (PyProof.Rows.envOfC d_exchange_claim.qual d_exchange_claim.scope s.heap.objs.size f cdv)) →
    SSs (cxOf CX0 P w K mg base ["pair", "converter", "relation", "forms", "arrays", "givens", "same", "pairs", "due", "asks", "mine", "theirs", "keep", "item", "f", "one", "other"] d_exchange_claim.qual d_exchange_claim.scope f cdv A outer s H E).nox cl [] d_exchange_claim.body g } := ⟨_, fun P w K mg base cl B f cdv A outer s H E hr => by
  have c_proc_named := ok_proc_named (P := P) (w := w) (base := base) B (hr.mono (by decide : 1 ≤ 22))
  have c_Pair_state_arrays := ok_Pair_state_arrays (P := P) (w := w) (base := base) B (hr.mono (by decide : 3 ≤ 22))
  have c_image := ok_image (P := P) (w := w) (base := base) B (hr.mono (by decide : 3 ≤ 22))
  have c_sided := ok_sided (P := P) (w := w) (base := base) B (hr.mono (by decide : 3 ≤ 22))
  have c_right_pairs := ok_right_pairs (P := P) (w := w) (base := base) B (hr.mono (by decide : 21 ≤ 22))
  have c_equal_states := ok_equal_states (P := P) (w := w) (base := base) B (hr.mono (by decide : 9 ≤ 22))
  exact (ss_cons (ss_unp (sd_var 2 (pv 2)) (sg_tup (n := 2) (sgs_cons (sg_name 3 (pg_name sc_exchange_claim.nd (by rfl) (by first | exact Or.inl rfl | exact Or.inr rfl))) (sgs_cons (sg_name 4 (pg_name sc_exchange_claim.nd (by rfl) (by first | exact Or.inl rfl | exact Or.inr rfl))) sgs_nil))))
    (ss_cons (ss_unpO (is := [5, 6]) (so_callD c_equal_states (sds_cons (sd_var 0 (pv 0)) (sds_cons (sd_var 1 (pv 1)) sds_nil))) (.cons (i := 5) (pg_name sc_exchange_claim.nd (by rfl) (by first | exact Or.inl rfl | exact Or.inr rfl)) (.cons (i := 6) (pg_name sc_exchange_claim.nd (by rfl) (by first | exact Or.inl rfl | exact Or.inr rfl)) .nil)))
    (ss_cons (ss_extend 5 (so_comp (own := [("f", 14)]) (si_seq (sd_ixG (u1 hr.units) (sd_attr (ok := ok_invariants) (B.at_invariants) (sd_var 0 (pv 0))) sd_int)) (blkOk_by (show blkC LN_exchange_claim d_exchange_claim.scope _ _ = true by decide +kernel)) (fun s H C cs fp => (sg_name 14 (pg_name sc_exchange_claim.nd (by rfl) (by first | exact Or.inl rfl | exact Or.inr rfl)))) (fun s H C cs fp => sts_nil) (fun s H C cs fp => (so_callD c_sided (sds_cons (sd_gtxt B.k_LEFT) (sds_cons (sd_var 14 (pv 14)) sds_nil))).sd) sc_exchange_claim.nd).sd (pv 5))
    (ss_cons (ss_set 7 ((so_callD c_right_pairs (sds_cons (sd_var 0 (pv 0)) (sds_cons (sd_var 1 (pv 1)) sds_nil))).sd.so) sc_exchange_claim.nd)
    (ss_cons (ss_set 8 ((sd_addG (so_list B.n_list (sd_var 3 (pv 3))).sd (so_comp (own := [("f", 14)]) (si_seq (sd_ixG (u1 hr.units) (sd_attr (ok := ok_invariants) (B.at_invariants) (sd_var 0 (pv 0))) sd_int)) (blkOk_by (show blkC LN_exchange_claim d_exchange_claim.scope _ _ = true by decide +kernel)) (fun s H C cs fp => (sg_name 14 (pg_name sc_exchange_claim.nd (by rfl) (by first | exact Or.inl rfl | exact Or.inr rfl)))) (fun s H C cs fp => sts_nil) (fun s H C cs fp => (so_callD c_sided (sds_cons (sd_gtxt B.k_RIGHT) (sds_cons (sd_var 14 (pv 14)) sds_nil))).sd) sc_exchange_claim.nd).sd).so) sc_exchange_claim.nd)
    (ss_cons (ss_set 9 ((sd_tuple B.n_tuple (so_comp (own := [("f", 14)]) (si_seq (sd_var 8 (pv 8))) (blkOk_by (show blkC LN_exchange_claim d_exchange_claim.scope _ _ = true by decide +kernel)) (fun s H C cs fp => (sg_name 14 (pg_name sc_exchange_claim.nd (by rfl) (by first | exact Or.inl rfl | exact Or.inr rfl)))) (fun s H C cs fp => sts_nil) (fun s H C cs fp => (so_callD c_image (sds_cons (sd_var 14 (pv 14)) (sds_cons (sd_var 7 (pv 7)) sds_nil))).sd) sc_exchange_claim.nd).sd).so) sc_exchange_claim.nd)
    (ss_cons (ss_set 10 ((so_methD c_Pair_state_arrays (sd_var 0 (pv 0)) (sds_cons sd_int sds_nil)).sd.so) sc_exchange_claim.nd)
    (ss_cons (ss_set 11 ((so_comp (own := [("item", 13)]) (si_seq (sd_ixG (u1 hr.units) (so_callD c_proc_named (sds_cons (sd_ixG (u1 hr.units) (sd_attr (ok := ok_cores) (B.at_cores) (sd_var 0 (pv 0))) sd_int) (sds_cons (sd_ixG (u1 hr.units) (sd_var 1 (pv 1)) sd_int) sds_nil))).sd sd_int)) (blkOk_by (show blkC LN_exchange_claim d_exchange_claim.scope _ _ = true by decide +kernel)) (fun s H C cs fp => (sg_name 13 (pg_name sc_exchange_claim.nd (by rfl) (by first | exact Or.inl rfl | exact Or.inr rfl)))) (fun s H C cs fp => (sts_one (st_eq hr.units (sd_ixG (u1 hr.units) (sd_var 13 (pv 13)) sd_int) sd_str))) (fun s H C cs fp => (sd_ixG (u1 hr.units) (sd_var 13 (pv 13)) sd_int)) sc_exchange_claim.nd).sd.so) sc_exchange_claim.nd)
    (ss_cons (ss_set 12 ((sd_tuple B.n_tuple (so_comp (own := [("one", 15), ("other", 16)]) (si_seq (sd_var 4 (pv 4))) (blkOk_by (show blkC LN_exchange_claim d_exchange_claim.scope _ _ = true by decide +kernel)) (fun s H C cs fp => (sg_tup (n := 2) (sgs_cons (sg_name 15 (pg_name sc_exchange_claim.nd (by rfl) (by first | exact Or.inl rfl | exact Or.inr rfl))) (sgs_cons (sg_name 16 (pg_name sc_exchange_claim.nd (by rfl) (by first | exact Or.inl rfl | exact Or.inr rfl))) sgs_nil)))) (fun s H C cs fp => sts_nil) (fun s H C cs fp => (sd_tup (sds_cons (sd_ixG (u1 hr.units) (sd_var 10 (pv 10)) (sd_var 15 (pv 15))) (sds_cons (sd_ixG (u1 hr.units) (sd_var 11 (pv 11)) (sd_ixG (u1 hr.units) (sd_ixG (u1 hr.units) (sd_var 1 (pv 1)) sd_int) (sd_var 16 (pv 16)))) sds_nil)))) sc_exchange_claim.nd).sd).so) sc_exchange_claim.nd)
    (ss_one (ss_ret ((sd_tup (sds_cons (sd_gtxt B.k_NOTHING) (sds_cons (sd_ixG (u1 hr.units) (sd_var 1 (pv 1)) sd_int) (sds_cons ((sd_tuple B.n_tuple (sd_var 5 (pv 5))).peek) (sds_cons ((sd_tuple B.n_tuple (sd_var 6 (pv 6))).peek) (sds_cons (sd_var 9 (pv 9)) (sds_cons (sd_var 12 (pv 12)) sds_nil))))))).so))))))))))))⟩
def c_exchange_claim : Fn := runDef 3 17 [] der_exchange_claim.1
theorem ok_exchange_claim {P : Program} {w : World} {K : PySem.W.Frag} {mg : Str → Option Value} {base : Heap} {cl : Cl} {A : Around} (B : Bnd K mg cl) (hr : Room 23 A) : Callee P w K mg base A cl "exchange_claim" c_exchange_claim := by
  obtain ⟨f, fd, F, hm⟩ := B.f_exchange_claim.ex
  exact ⟨_, _, ["pair", "converter", "relation"], _, (def_ok F sc_exchange_claim rfl rfl (by decide) fun cdv A outer s H E hr => der_exchange_claim.2 P w K mg base cl B f cdv A outer s H E hr : FnOk P w K mg base CX0 23 f fd _ _), hr, hm, F.kp, (F.bindsN fun _ _ _ _ _ _ us hl => match us, hl with | [_, _, _], _ => rfl)⟩
/-! _law_form -/
abbrev LN_u_law_form : List Str := ["constant", "pairs", "sums", "name", "number"]
theorem sc_u_law_form : FnScope ["constant", "pairs", "sums", "name", "number"] ["constant", "pairs"] (defScope s_u_law_form) := ⟨rfl, rfl, rfl, by decide +kernel, rfl, by decide +kernel, by decide +kernel⟩
def der_u_law_form : { g : MS // ∀ (P : Program) (w : World) (K : PySem.W.Frag) (mg : Str → Option Value) (base : Heap) (cl : Cl) (B : Bnd K mg cl) (f : Addr) (cdv : Value) (A : Around) (outer : List PySem.Env) (s : Shared) (H : Hp) (E : XK), Room 0 (A.deeper (PyProof.Rows.envOfC d_u_law_form.qual d_u_law_form.scope s.heap.objs.size f cdv)) →
    SSs (cxOf CX0 P w K mg base ["constant", "pairs", "sums", "name", "number"] d_u_law_form.qual d_u_law_form.scope f cdv A outer s H E).nox cl [] d_u_law_form.body g } := ⟨_, fun P w K mg base cl B f cdv A outer s H E hr => by
  exact (ss_cons (ss_set 2 so_empty sc_u_law_form.nd)
    (ss_cons (ss_for (si_seq (sd_var 1 (pv 1))) (sg_tup (n := 2) (sgs_cons (sg_name 3 (pg_name sc_u_law_form.nd (by rfl) (by first | exact Or.inl rfl | exact Or.inr rfl))) (sgs_cons (sg_name 4 (pg_name sc_u_law_form.nd (by rfl) (by first | exact Or.inl rfl | exact Or.inr rfl))) sgs_nil))) (ss_one (ss_put 2 (u1 hr.units) (sd_addG ((sd_get (u1 hr.units) (sd_var 2 (pv 2)) (sd_var 3 (pv 3)) sd_int).peek) (sd_var 4 (pv 4))) (pv 2) (sd_var 3 (pv 3)))))
    (ss_one (ss_ret ((sd_tup (sds_cons (sd_var 0 (pv 0)) (sds_cons (sd_tuple B.n_tuple (so_comp (own := [("name", 3)]) (si_seq (sd_sorted B.n_sorted (sd_take 2 (pv 2)))) (blkOk_by (show blkC LN_u_law_form d_u_law_form.scope _ _ = true by decide +kernel)) (fun s H C cs fp => (sg_name 3 (pg_name sc_u_law_form.nd (by rfl) (by first | exact Or.inl rfl | exact Or.inr rfl)))) (fun s H C cs fp => (sts_one ((st_ne hr.units (sd_ixG (u1 hr.units) (sd_var 2 (pv 2)) (sd_var 3 (pv 3))) sd_int).peek))) (fun s H C cs fp => (sd_tup (sds_cons (sd_var 3 (pv 3)) (sds_cons ((sd_ixG (u1 hr.units) (sd_var 2 (pv 2)) (sd_var 3 (pv 3))).peek) sds_nil)))) sc_u_law_form.nd).sd) sds_nil))).so)))))⟩
def c_u_law_form : Fn := runDef 2 5 [] der_u_law_form.1
theorem ok_u_law_form {P : Program} {w : World} {K : PySem.W.Frag} {mg : Str → Option Value} {base : Heap} {cl : Cl} {A : Around} (B : Bnd K mg cl) (hr : Room 1 A) : Callee P w K mg base A cl "_law_form" c_u_law_form := by
  obtain ⟨f, fd, F, hm⟩ := B.f_u_law_form.ex
  exact ⟨_, _, ["constant", "pairs"], _, (def_ok F sc_u_law_form rfl rfl (by decide) fun cdv A outer s H E hr => der_u_law_form.2 P w K mg base cl B f cdv A outer s H E hr : FnOk P w K mg base CX0 1 f fd _ _), hr, hm, F.kp, (F.bindsN fun _ _ _ _ _ _ us hl => match us, hl with | [_, _], _ => rfl)⟩
/-! _law_some_form -/
abbrev LN_u_law_some_form : List Str := ["state", "names", "found", "x", "number"]
theorem sc_u_law_some_form : FnScope ["state", "names", "found", "x", "number"] ["state", "names"] (defScope s_u_law_some_form) := ⟨rfl, rfl, rfl, by decide +kernel, rfl, by decide +kernel, by decide +kernel⟩
def der_u_law_some_form : { g : MS // ∀ (P : Program) (w : World) (K : PySem.W.Frag) (mg : Str → Option Value) (base : Heap) (cl : Cl) (B : Bnd K mg cl) (f : Addr) (cdv : Value) (A : Around) (outer : List PySem.Env) (s : Shared) (H : Hp) (E : XK), Room 2 (A.deeper (PyProof.Rows.envOfC d_u_law_some_form.qual d_u_law_some_form.scope s.heap.objs.size f cdv)) →
    SSs (cxOf CX0 P w K mg base ["state", "names", "found", "x", "number"] d_u_law_some_form.qual d_u_law_some_form.scope f cdv A outer s H E).nox cl [0] d_u_law_some_form.body g } := ⟨_, fun P w K mg base cl B f cdv A outer s H E hr => by
  have c_u_law_form := ok_u_law_form (P := P) (w := w) (base := base) B (hr.mono (by decide : 1 ≤ 2))
  have c_u_law_draw := ok_u_law_draw (P := P) (w := w) (base := base) B (hr.mono (by decide : 1 ≤ 2))
  exact (ss_cons (SS.fz (ss_setComp 2 (own := [("x", 3)]) (si_seq (sd_var 1 (pv 1))) (blkOk_by (show blkC LN_u_law_some_form d_u_law_some_form.scope _ _ = true by decide +kernel)) (fun s H C cs fp => (sg_name 3 (pg_name sc_u_law_some_form.nd (by rfl) (by first | exact Or.inl rfl | exact Or.inr rfl)))) (fun s H C cs fp => (sts_one (st_eq hr.units (so_call c_u_law_draw (by decide) (sa_lend 0 (pv 0) (sa_cons (sd_int.so) sa_nil))).sd sd_int))) (fun s H C cs fp => (sd_tup (sds_cons (sd_var 3 (pv 3)) (sds_cons (sd_sub (so_call c_u_law_draw (by decide) (sa_lend 0 (pv 0) (sa_cons (sd_int.so) sa_nil))).sd sd_int) sds_nil)))) sc_u_law_some_form.nd))
    (ss_one (ss_ret (so_callD c_u_law_form (sds_cons (sd_sub (so_call c_u_law_draw (by decide) (sa_lend 0 (pv 0) (sa_cons (sd_int.so) sa_nil))).sd sd_int) (sds_cons (so_comp (own := [("x", 3), ("number", 4)]) (si_seq (sd_var 2 (pv 2))) (blkOk_by (show blkC LN_u_law_some_form d_u_law_some_form.scope _ _ = true by decide +kernel)) (fun s H C cs fp => (sg_tup (n := 2) (sgs_cons (sg_name 3 (pg_name sc_u_law_some_form.nd (by rfl) (by first | exact Or.inl rfl | exact Or.inr rfl))) (sgs_cons (sg_name 4 (pg_name sc_u_law_some_form.nd (by rfl) (by first | exact Or.inl rfl | exact Or.inr rfl))) sgs_nil)))) (fun s H C cs fp => (sts_one (st_ne hr.units (sd_var 4 (pv 4)) sd_int))) (fun s H C cs fp => (sd_tup (sds_cons (sd_var 3 (pv 3)) (sds_cons (sd_var 4 (pv 4)) sds_nil)))) sc_u_law_some_form.nd).sd sds_nil))))))⟩
def c_u_law_some_form : Fn := runDef 2 5 [0] der_u_law_some_form.1
theorem ok_u_law_some_form {P : Program} {w : World} {K : PySem.W.Frag} {mg : Str → Option Value} {base : Heap} {cl : Cl} {A : Around} (B : Bnd K mg cl) (hr : Room 3 A) : Callee P w K mg base A cl "_law_some_form" c_u_law_some_form := by
  obtain ⟨f, fd, F, hm⟩ := B.f_u_law_some_form.ex
  exact ⟨_, _, ["state", "names"], _, (def_ok F sc_u_law_some_form rfl rfl (by decide) fun cdv A outer s H E hr => der_u_law_some_form.2 P w K mg base cl B f cdv A outer s H E hr : FnOk P w K mg base CX0 3 f fd _ _), hr, hm, F.kp, (F.bindsN fun _ _ _ _ _ _ us hl => match us, hl with | [_, _], _ => rfl)⟩
/-! law -/
abbrev LN_law : List Str := ["script", "state", "specs", "sides", "proc", "converter", "cores", "parts", "names", "invariants", "side", "pair", "other", "odd", "spoilt", "both", "arrays", "relation", "due", "spec", "k", "x"]
theorem sc_law : FnScope ["script", "state", "specs", "sides", "proc", "converter", "cores", "parts", "names", "invariants", "side", "pair", "other", "odd", "spoilt", "both", "arrays", "relation", "due", "spec", "k", "x"] ["script"] (defScope s_law) := ⟨rfl, rfl, rfl, by decide +kernel, rfl, by decide +kernel, by decide +kernel⟩
def der_law : { g : MS // ∀ (P : Program) (w : World) (K : PySem.W.Frag) (mg : Str → Option Value) (base : Heap) (cl : Cl) (B : Bnd K mg cl) (f : Addr) (cdv : Value) (A : Around) (outer : List PySem.Env) (s : Shared) (H : Hp) (E : XK), Room 24 (A.deeper (PyProof.Rows.envOfC d_law.qual d_law.scope s.heap.objs.size f cdv)) →
    SSs (cxOf CX0 P w K mg base ["script", "state", "specs", "sides", "proc", "converter", "cores", "parts", "names", "invariants", "side", "pair", "other", "odd", "spoilt", "both", "arrays", "relation", "due", "spec", "k", "x"] d_law.qual d_law.scope f cdv A outer s H E).nox cl [] d_law.body g } := ⟨_, fun P w K mg base cl B f cdv A outer s H E hr => by
  have c_u_law_same := ok_u_law_same (P := P) (w := w) (base := base) B (hr.mono (by decide : 15 ≤ 24))
  have c_exchange_claim := ok_exchange_claim (P := P) (w := w) (base := base) B (hr.mono (by decide : 23 ≤ 24))
  have c_u_law_claim := ok_u_law_claim (P := P) (w := w) (base := base) B (hr.mono (by decide : 21 ≤ 24))
  have c_u_law_draw := ok_u_law_draw (P := P) (w := w) (base := base) B (hr.mono (by decide : 1 ≤ 24))
  have c_u_law_some_form := ok_u_law_some_form (P := P) (w := w) (base := base) B (hr.mono (by decide : 3 ≤ 24))
  have c_u_law_faults := ok_u_law_faults (P := P) (w := w) (base := base) B (hr.mono (by decide : 1 ≤ 24))
  have c_is_converter := ok_is_converter (P := P) (w := w) (base := base) B (hr.mono (by decide : 5 ≤ 24))
  have c_Pair_init := ok_Pair_init (P := P) (w := w) (base := base) B (hr.mono (by decide : 2 ≤ 24))
  have c_inputs_of := ok_inputs_of (P := P) (w := w) (base := base) B (hr.mono (by decide : 5 ≤ 24))
  have c_u_law_converter := ok_u_law_converter (P := P) (w := w) (base := base) B (hr.mono (by decide : 5 ≤ 24))
  have c_u_law_side := ok_u_law_side (P := P) (w := w) (base := base) B (hr.mono (by decide : 5 ≤ 24))
  have c_u_law_two := ok_u_law_two (P := P) (w := w) (base := base) B (hr.mono (by decide : 3 ≤ 24))
  have c_u_law_start := ok_u_law_start (P := P) (w := w) (base := base) B (hr.mono (by decide : 1 ≤ 24))
  exact (ss_cons (ss_set 1 (so_callD c_u_law_start (sds_cons (sd_var 0 (pv 0)) sds_nil)) sc_law.nd)
    (ss_cons (ss_set 2 ((so_call c_u_law_two (by decide) (sa_lend 1 (pv 1) sa_nil)).sd.so) sc_law.nd)
    (ss_cons (SS.fz (ss_setComp 3 (own := [("spec", 19)]) (si_seq (sd_var 2 (pv 2))) (blkOk_by (show blkC LN_law d_law.scope _ _ = true by decide +kernel)) (fun s H C cs fp => (sg_name 19 (pg_name sc_law.nd (by rfl) (by first | exact Or.inl rfl | exact Or.inr rfl)))) (fun s H C cs fp => sts_nil) (fun s H C cs fp => (so_call c_u_law_side (by decide) (sa_lend 1 (pv 1) (sa_cons ((sd_var 19 (pv 19)).so) sa_nil))).sd) sc_law.nd))
    (ss_cons (ss_unp (so_call c_u_law_converter (by decide) (sa_lend 1 (pv 1) (sa_cons ((sd_var 2 (pv 2)).so) sa_nil))).sd (sg_tup (n := 2) (sgs_cons (sg_name 4 (pg_name sc_law.nd (by rfl) (by first | exact Or.inl rfl | exact Or.inr rfl))) (sgs_cons (sg_name 5 (pg_name sc_law.nd (by rfl) (by first | exact Or.inl rfl | exact Or.inr rfl))) sgs_nil))))
    (ss_cons (ss_set 6 ((sd_tup (sds_cons (sd_ixG (u1 hr.units) (sd_ixG (u1 hr.units) (sd_var 3 (pv 3)) sd_int) sd_int) (sds_cons (sd_addG (sd_tup (sds_cons (sd_var 4 (pv 4)) sds_nil)) (sd_ixG (u1 hr.units) (sd_ixG (u1 hr.units) (sd_var 3 (pv 3)) sd_int) sd_int)) sds_nil))).so) sc_law.nd)
    (ss_cons (ss_set 7 ((sd_tup (sds_cons (sd_ixG (u1 hr.units) (sd_ixG (u1 hr.units) (sd_var 3 (pv 3)) sd_int) sd_int) (sds_cons (sd_ixG (u1 hr.units) (sd_ixG (u1 hr.units) (sd_var 3 (pv 3)) sd_int) sd_int) sds_nil))).so) sc_law.nd)
    (ss_cons (ss_set 8 ((so_comp (own := [("side", 10)]) (si_range1 B.n_range sd_int) (blkOk_by (show blkC LN_law d_law.scope _ _ = true by decide +kernel)) (fun s H C cs fp => (sg_name 10 (pg_name sc_law.nd (by rfl) (by first | exact Or.inl rfl | exact Or.inr rfl)))) (fun s H C cs fp => sts_nil) (fun s H C cs fp => (sd_slice (so_callD c_inputs_of (sds_cons (sd_ixG (u1 hr.units) (sd_var 6 (pv 6)) (sd_var 10 (pv 10))) (sds_cons (sd_ixG (u1 hr.units) (sd_ixG (u1 hr.units) (sd_ixG (u1 hr.units) (sd_var 7 (pv 7)) (sd_var 10 (pv 10))) sd_int) sd_int) sds_nil))).sd spo_none (spo_some (sd_addG (sd_ixG (u1 hr.units) (sd_ixG (u1 hr.units) (sd_var 7 (pv 7)) (sd_var 10 (pv 10))) sd_int) (sd_ixG (u1 hr.units) (sd_ixG (u1 hr.units) (sd_var 7 (pv 7)) (sd_var 10 (pv 10))) sd_int))))) sc_law.nd).sd.so) sc_law.nd)
    (ss_cons (ss_set 9 (so_lst sds_nil) sc_law.nd)
    (ss_cons (ss_for (si_range1 B.n_range sd_int) (sg_name 10 (pg_name sc_law.nd (by rfl) (by first | exact Or.inl rfl | exact Or.inr rfl))) (ss_one (ss_append 9 ((sd_tuple B.n_tuple (so_comp (own := [("k", 20)]) (si_range1 B.n_range (so_call c_u_law_draw (by decide) (sa_lend 1 (pv 1) (sa_cons (sd_int.so) sa_nil))).sd) (blkOk_by (show blkC LN_law d_law.scope _ _ = true by decide +kernel)) (fun s H C cs fp => (sg_name 20 (pg_name sc_law.nd (by rfl) (by first | exact Or.inl rfl | exact Or.inr rfl)))) (fun s H C cs fp => sts_nil) (fun s H C cs fp => (so_call c_u_law_some_form (by decide) (sa_lend 1 (pv 1) (sa_cons ((sd_ixG (u1 hr.units) (sd_var 8 (pv 8)) (sd_var 10 (pv 10))).so) sa_nil))).sd) sc_law.nd).sd).so) (pv 9))))
    (ss_cons (ss_set 11 ((so_newD c_Pair_init (sds_cons (sd_var 6 (pv 6)) (sds_cons (sd_var 7 (pv 7)) (sds_cons ((sd_tuple B.n_tuple (sd_var 9 (pv 9))).peek) sds_nil)))).sd.so) sc_law.nd)
    (ss_cons (ss_if (st_isNot (so_callD c_is_converter (sds_cons (sd_var 11 (pv 11)) (sds_cons (sd_var 5 (pv 5)) sds_nil))).sd sd_bl) (ss_one (ss_ret (sd_bl.so))) ss_nil)
    (ss_cons (ss_for (si_seq (so_callD c_u_law_faults (sds_cons (sd_var 4 (pv 4)) (sds_cons (sd_var 5 (pv 5)) sds_nil))).sd) (sg_tup (n := 2) (sgs_cons (sg_name 12 (pg_name sc_law.nd (by rfl) (by first | exact Or.inl rfl | exact Or.inr rfl))) (sgs_cons (sg_name 13 (pg_name sc_law.nd (by rfl) (by first | exact Or.inl rfl | exact Or.inr rfl))) sgs_nil))) (ss_cons (ss_set 14 ((so_newD c_Pair_init (sds_cons (sd_tup (sds_cons (sd_ixG (u1 hr.units) (sd_ixG (u1 hr.units) (sd_var 3 (pv 3)) sd_int) sd_int) (sds_cons (sd_addG (sd_tup (sds_cons (sd_var 12 (pv 12)) sds_nil)) (sd_ixG (u1 hr.units) (sd_ixG (u1 hr.units) (sd_var 3 (pv 3)) sd_int) sd_int)) sds_nil))) (sds_cons (sd_var 7 (pv 7)) (sds_cons ((sd_tuple B.n_tuple (sd_var 9 (pv 9))).peek) sds_nil)))).sd.so) sc_law.nd)
    (ss_one (ss_if (st_isNot (so_callD c_is_converter (sds_cons (sd_var 14 (pv 14)) (sds_cons (sd_var 13 (pv 13)) sds_nil))).sd sd_bl) (ss_one (ss_ret (sd_bl.so))) ss_nil))))
    (ss_cons (ss_set 15 ((sd_addG (so_comp (own := [("x", 21)]) (si_seq (sd_ixG (u1 hr.units) (sd_var 8 (pv 8)) sd_int)) (blkOk_by (show blkC LN_law d_law.scope _ _ = true by decide +kernel)) (fun s H C cs fp => (sg_name 21 (pg_name sc_law.nd (by rfl) (by first | exact Or.inl rfl | exact Or.inr rfl)))) (fun s H C cs fp => sts_nil) (fun s H C cs fp => (sd_addG sd_str (sd_var 21 (pv 21)))) sc_law.nd).sd (so_comp (own := [("x", 21)]) (si_seq (sd_ixG (u1 hr.units) (sd_var 8 (pv 8)) sd_int)) (blkOk_by (show blkC LN_law d_law.scope _ _ = true by decide +kernel)) (fun s H C cs fp => (sg_name 21 (pg_name sc_law.nd (by rfl) (by first | exact Or.inl rfl | exact Or.inr rfl)))) (fun s H C cs fp => sts_nil) (fun s H C cs fp => (sd_addG sd_str (sd_var 21 (pv 21)))) sc_law.nd).sd).so) sc_law.nd)
    (ss_cons (SS.fz (ss_setComp 16 (own := [("k", 20)]) (si_range1 B.n_range (sd_ixG (u1 hr.units) (sd_ixG (u1 hr.units) (sd_var 7 (pv 7)) sd_int) sd_int)) (blkOk_by (show blkC LN_law d_law.scope _ _ = true by decide +kernel)) (fun s H C cs fp => (sg_name 20 (pg_name sc_law.nd (by rfl) (by first | exact Or.inl rfl | exact Or.inr rfl)))) (fun s H C cs fp => (sts_one (st_eq hr.units (so_call c_u_law_draw (by decide) (sa_lend 1 (pv 1) (sa_cons (sd_int.so) sa_nil))).sd sd_int))) (fun s H C cs fp => (sd_tup (sds_cons sd_int (sds_cons (sd_var 20 (pv 20)) sds_nil)))) sc_law.nd))
    (ss_cons (ss_set 17 ((sd_tup (sds_cons (sd_tuple B.n_tuple (so_comp (own := [("k", 20)]) (si_range1 B.n_range (so_call c_u_law_draw (by decide) (sa_lend 1 (pv 1) (sa_cons (sd_int.so) sa_nil))).sd) (blkOk_by (show blkC LN_law d_law.scope _ _ = true by decide +kernel)) (fun s H C cs fp => (sg_name 20 (pg_name sc_law.nd (by rfl) (by first | exact Or.inl rfl | exact Or.inr rfl)))) (fun s H C cs fp => sts_nil) (fun s H C cs fp => (so_call c_u_law_some_form (by decide) (sa_lend 1 (pv 1) (sa_cons ((sd_var 15 (pv 15)).so) sa_nil))).sd) sc_law.nd).sd) (sds_cons (sd_tuple B.n_tuple (sd_var 16 (pv 16))) sds_nil))).so) sc_law.nd)
    (ss_cons (ss_set 18 ((so_call c_u_law_claim (by decide) (sa_cons ((sd_var 6 (pv 6)).so) (sa_cons ((sd_var 7 (pv 7)).so) (sa_lend 9 (pv 9) (sa_cons ((sd_var 4 (pv 4)).so) (sa_cons ((sd_var 5 (pv 5)).so) (sa_cons ((sd_var 17 (pv 17)).so) sa_nil))))))).sd.so) sc_law.nd)
    (ss_one (ss_ret (so_callD c_u_law_same (sds_cons (so_callD c_exchange_claim (sds_cons (sd_var 11 (pv 11)) (sds_cons (sd_var 5 (pv 5)) (sds_cons (sd_var 17 (pv 17)) sds_nil)))).sd (sds_cons (sd_var 18 (pv 18)) sds_nil)))))))))))))))))))))⟩
def c_law : Fn := runDef 1 22 [] der_law.1
theorem ok_lawF {P : Program} {w : World} {K : PySem.W.Frag} {mg : Str → Option Value} {base : Heap} {cl : Cl} {f : Addr} {fd : FuncData} (B : Bnd K mg cl) (F : FunD K d_law.name d_law.qual d_law.params d_law.body d_law.scope [] [] f fd) : FnOk P w K mg base CX0 25 f fd ["script"] (spOf K cl c_law) :=
  def_ok F sc_law rfl rfl (by decide) fun cdv A outer s H E hr => der_law.2 P w K mg base cl B f cdv A outer s H E hr
end Hd
set_option Elab.async false
set_option linter.all false
set_option maxRecDepth 100000
set_option maxHeartbeats 4000000
set_option autoImplicit false
namespace Hd
open PySem PySem.Spec L2 PI
def stO (ds : List Int) (a b c : Int) : O := .lst [.fz (.lst (ds.map .int)), .fz (.int a), .fz (.int b), .fz (.int c)]
theorem if_t {c : MB} {g h : MS} {ρ ρ1 : Rho} {k : Bool} {r : Option (Fl × Rho)} (e : c ρ = some (k, ρ1)) (hk : k = true) (e2 : g ρ1 = r) : sIf c g h ρ = r := by
  unfold sIf
  rw [e, hk]
  exact e2
theorem if_f {c : MB} {g h : MS} {ρ ρ1 : Rho} {k : Bool} {r : Option (Fl × Rho)} (e : c ρ = some (k, ρ1)) (hk : k = false) (e2 : h ρ1 = r) : sIf c g h ρ = r := by
  unfold sIf
  rw [e, hk]
  exact e2
theorem fn_k {f : List D → Option D} {g : MDs} {ρ ρ1 : Rho} {ds : List D} {d : D} (e : g ρ = some (ds, ρ1)) (e2 : f ds = some d) : mFn f g ρ = some (d, ρ1) := by
  unfold mFn
  rw [e]
  dsimp only
  rw [e2]
theorem ds_k {g : MD} {f : MDs} {ρ ρ1 ρ2 : Rho} {ds : List D} {d : D} (e : g ρ = some (d, ρ1)) (e2 : f ρ1 = some (ds, ρ2)) : dsCons g f ρ = some (d :: ds, ρ2) := by
  unfold dsCons
  rw [e]
  dsimp only
  rw [e2]
theorem peek_k {g : MD} {ρ ρ1 : Rho} {d : D} (e : g (viewAll ρ) = some (d, ρ1)) (hi : d.imm = true := by rfl) : mPeek g ρ = some (d, ρ) := by
  unfold mPeek
  rw [e]
  dsimp only
  rw [hi]
theorem ret_k {g : MO} {ρ ρ1 : Rho} {o : O} (e : g ρ = some (o, ρ1)) : sRet g ρ = some (.rt o, ρ1) := by
  unfold sRet
  rw [e]
theorem item_k {i : Nat} {gk : MD} {g : MO} {ρ ρ1 ρ2 : Rho} {o o' : O} {k : Int} {os : List O} {j : Nat} (e : g ρ = some (o, ρ1)) (e2 : gk ρ1 = some (.int k, ρ2)) (e3 : ρ2[i]? = some (some (.lst os)) := by rfl) (e4 : ixN os.length k = some j := by rfl) (e5 : ρ1[i]? = some (some o') := by rfl) : sItem i gk g ρ = some (.nx, ρ2.set i (some (.lst (os.set j o)))) := by
  unfold sItem
  rw [e]
  dsimp only
  rw [e2]
  dsimp only
  rw [e3]
  dsimp only
  rw [e4, e5]
theorem mul_k {i j : Int} (h : -(2 ^ 64) < j ∧ j < 2 ^ 64) : dMulG (.int i) (.int j) = some (.int (i * j)) := by
  have : dMulG (.int i) (.int j) = dMul (.int i) (.int j) := rfl
  rw [this]
  have : (decide (-(2 ^ 64) < i ∧ i < 2 ^ 64 ∨ -(2 ^ 64) < j ∧ j < 2 ^ 64)) = true := decide_eq_true (.inr h)
  show (match decide (-(2 ^ 64) < i ∧ i < 2 ^ 64 ∨ -(2 ^ 64) < j ∧ j < 2 ^ 64) with
    | true => some (D.int (i * j))
    | false => none) = _
  rw [this]
theorem asg_k {i : Nat} {g : MO} {ρ ρ1 : Rho} {o : O} (e : g ρ = some (o, ρ1)) (hi : decide (i < ρ1.length) = true := by rfl) : sAsg i g ρ = some (.nx, ρ1.set i (some o)) := by
  unfold sAsg
  rw [e]
  dsimp only
  rw [hi]
theorem op_k {f : D → D → Option D} {ga gb : MD} {ρ ρ1 ρ2 : Rho} {x y d : D} (ha : ga ρ = some (x, ρ1)) (hb : gb ρ1 = some (y, ρ2)) (hf : f x y = some d) : mOp2 f ga gb ρ = some (d, ρ2) := by
  unfold mOp2
  rw [ha]
  dsimp only
  rw [hb]
  dsimp only
  rw [hf]
theorem fz_k {g : MD} {ρ ρ1 : Rho} {d : D} (e : g ρ = some (d, ρ1)) : oFz g ρ = some (.fz d, ρ1) := by
  unfold oFz
  rw [e]
theorem mod_k {i j : Int} (h : 0 < j) : dMod (.int i) (.int j) = some (.int (i % j)) := by
  simp [dMod, dInt2c, h]
theorem fdiv_k {i j : Int} (h : 0 < j) (h2 : j < 1073741824) : dFdiv (.int i) (.int j) = some (.int (i / j)) := by
  simp [dFdiv, dInt2c, h, h2]
theorem at0 {w x y z : D} : atI [w, x, y, z] 0 = some w := rfl
theorem at1 {w x y z : D} : atI [w, x, y, z] 1 = some x := rfl
theorem at2 {w x y z : D} : atI [w, x, y, z] 2 = some y := rfl
theorem at3 {w x y z : D} : atI [w, x, y, z] 3 = some z := rfl
theorem draw_ok (ds : List Int) (a b c most : Int) (h0 : 0 < most) (h1 : most < 1000) : ∃ v a' b' c', 0 ≤ v ∧ v < most ∧ c_u_law_draw [stO ds a b c, .fz (.int most)] = some (.fz (.int v), [some (stO ds a' b' c'), some (.fz (.int most))]) := by
  have h2 : most < 1073741824 := by omega
  by_cases hb : 0 < b
  · refine ⟨b % most, a, b / most, c + 1, Int.emod_nonneg _ (by omega), Int.emod_lt_of_pos _ h0, ?_⟩
    simp [c_u_law_draw, der_u_law_draw, runDef, PI.argsOk, stO, sSeq, sItem, sIf, sAsg, sRet, mC, oFz, mOp2, mPeek, bPeek, bOf, viewAll, mVar, dIx, mFn, dsCons, dsNil, fInt, fLen, fAbs, dAddG, dMod, dFdiv, dInt2c, dIntB, ixN, O.frz, O.frzs, D.imm, D.imms, finA, sSkip, mul_k, dPow, at0, at1, at2, at3, hb, h0, h2]
  by_cases hn : ds = []
  · subst hn
    refine ⟨((48271 + (c+1) * 69621) % 2147483647 * 16807 + (c+1)) % 2147483629 / 11 % most, a + 1, b, c + 1, Int.emod_nonneg _ (by omega), Int.emod_lt_of_pos _ h0, ?_⟩
    simp [c_u_law_draw, der_u_law_draw, runDef, PI.argsOk, stO, sSeq, sItem, sIf, sAsg, sRet, mC, oFz, mOp2, mPeek, bPeek, bOf, viewAll, mVar, dIx, mFn, dsCons, dsNil, fInt, fLen, fAbs, dAddG, dMod, dFdiv, dInt2c, dIntB, ixN, O.frz, O.frzs, D.imm, D.imms, finA, sSkip, mul_k, dPow, at0, at1, at2, at3, hb, h0, h2]
  have hp : 0 < ds.length := List.length_pos_iff.mpr hn
  have hp2 : (0 : Int) < (ds.length : Int) := by omega
  obtain ⟨y, hy⟩ : ∃ y : Int, atI (ds.map D.int) (a % (ds.length : Int)) = some (.int y) := by
    have e1 := Int.emod_nonneg a (show (ds.length : Int) ≠ 0 by omega)
    have e2 := Int.emod_lt_of_pos a hp2
    have e3 : (a % (ds.length : Int)).toNat < ds.length := by omega
    refine ⟨ds[(a % (ds.length : Int)).toNat], ?_⟩
    unfold atI ixN
    rw [if_pos e1, if_pos (by rw [List.length_map]; exact e2)]
    simp [e3]
  generalize hz : (if y < 0 then -y else y) = z
  by_cases hc : 1000000000000000000 ≤ z
  · refine ⟨z % most, a + 1, z / most, c + 1, Int.emod_nonneg _ (by omega), Int.emod_lt_of_pos _ h0, ?_⟩
    simp [c_u_law_draw, der_u_law_draw, runDef, PI.argsOk, stO, sSeq, sItem, sIf, sAsg, sRet, mC, oFz, mOp2, mPeek, bPeek, bOf, viewAll, mVar, dIx, mFn, dsCons, dsNil, fInt, fLen, fAbs, dAddG, dMod, dFdiv, dInt2c, dIntB, ixN, O.frz, O.frzs, D.imm, D.imms, finA, sSkip, mul_k, dPow, at0, at1, at2, at3, hb, h0, h2, hp, hy, hz, hc]
  · refine ⟨(((z + 1) * 48271 + (c+1) * 69621) % 2147483647 * 16807 + z / 97 + (c+1)) % 2147483629 / 11 % most, a + 1, b, c + 1, Int.emod_nonneg _ (by omega), Int.emod_lt_of_pos _ h0, ?_⟩
    simp [c_u_law_draw, der_u_law_draw, runDef, PI.argsOk, stO, sSeq, sItem, sIf, sAsg, sRet, mC, oFz, mOp2, mPeek, bPeek, bOf, viewAll, mVar, dIx, mFn, dsCons, dsNil, fInt, fLen, fAbs, dAddG, dMod, dFdiv, dInt2c, dIntB, ixN, O.frz, O.frzs, D.imm, D.imms, finA, sSkip, mul_k, dPow, at0, at1, at2, at3, hb, h0, h2, hp, hy, hz, hc]
end Hd
set_option Elab.async false
set_option linter.all false
set_option maxRecDepth 100000
set_option maxHeartbeats 4000000
set_option autoImplicit false
namespace Hd
open PySem PySem.Spec L2 PI
theorem argsOk_st {ds : List Int} {a b c : Int} {as : List O} : PI.argsOk [0] 0 (stO ds a b c :: as) = PI.argsOk [0] 1 as := rfl
def spK : List Key := [.inr "name", .inr "log", .inr "swapped", .inr "shift", .inr "by", .inr "pauses", .inr "need", .inr "many"]
def spD (nm : Str) (log : Int) (sw : Bool) (sh by_ many : Int) : D := .dct spK [.str nm, .int log, .bl sw, .int sh, .int by_, .int 0, .non, .int many]
def spO (nm : Str) (log : Int) (sw : Bool) (sh by_ many : Int) : O := .dct spK [.fz (.str nm), .fz (.int log), .fz (.bl sw), .fz (.int sh), .fz (.int by_), .fz (.int 0), .fz .non, .fz (.int many)]
theorem call0 {fn : Fn} {st st' : O} {r : O} {n : Int} {ρ : Rho} (h : fn [st, .fz (.int n)] = some (r, [some st', some (.fz (.int n))])) : mCall fn [some 0, none] (aLend 0 (aCons (oFz (mC (.int n))) aNil)) (some st :: ρ) = some (r, some st' :: ρ) := call2 h
theorem frz_k {g : MO} {ρ ρ1 : Rho} {o : O} (e : g ρ = some (o, ρ1)) : mFrz g ρ = some (o.frz, ρ1) := by
  unfold mFrz
  rw [e]
theorem dw {ds : List Int} {a b c a' b' c' v n : Int} {ρ : Rho} (e : c_u_law_draw [stO ds a b c, .fz (.int n)] = some (.fz (.int v), [some (stO ds a' b' c'), some (.fz (.int n))])) : mFrz (mCall c_u_law_draw [some 0, none] (aLend 0 (aCons (oFz (mC (.int n))) aNil))) (some (stO ds a b c) :: ρ) = some (.int v, some (stO ds a' b' c') :: ρ) := frz_k (call2 e)
theorem put_c {i : Nat} {gk g : MD} {ρ ρ1 : Rho} {d : D} {r : Option (Fl × Rho)} (e : g ρ = some (d, ρ1)) (e2 : sPut i gk (fun _ => some (d, ρ1)) ρ = r) : sPut i gk g ρ = r := by
  rw [← e2]
  unfold sPut
  rw [e]
theorem and_f {g h : MD} {ρ ρ1 : Rho} (e : g ρ = some (.bl false, ρ1)) : mAnd g h ρ = some (.bl false, ρ1) := by
  unfold mAnd
  rw [e]
theorem and_t {g h : MD} {ρ ρ1 : Rho} {r : Option (D × Rho)} (e : g ρ = some (.bl true, ρ1)) (e2 : h ρ1 = r) : mAnd g h ρ = r := by
  rw [← e2]
  unfold mAnd
  rw [e]
theorem b_k {g : MD} {ρ ρ1 : Rho} {k : Bool} (e : g ρ = some (.bl k, ρ1)) : bOf g ρ = some (k, ρ1) := by
  unfold bOf
  rw [e]
theorem if_c {c : MB} {g h : MS} {ρ ρ1 : Rho} {k : Bool} {r : Option (Fl × Rho)} (e : c ρ = some (k, ρ1)) (e2 : sIf (fun _ => some (k, ρ1)) g h ρ = r) : sIf c g h ρ = r := by
  rw [← e2]
  unfold sIf
  rw [e]
theorem two_ok (ds : List Int) (a b c : Int) : ∃ a' b' c' log sw sh by_ many, (log = 0 ∧ sw = false ∨ log = 1) ∧ (sh = 0 ∨ sh = 1 ∨ sh = 3 ∨ sh = -2) ∧ (by_ = 1 ∨ by_ = 2) ∧ (many = 1 ∨ many = 2 ∨ many = 3) ∧
    c_u_law_two [stO ds a b c] = some (.fz (.tup [spD "l" 0 false 0 by_ many, spD "r" log sw sh by_ many]), [some (stO ds a' b' c')]) := by
  obtain ⟨v1, a1, b1, c1, l1, u1, e1⟩ := draw_ok ds a b c 3 (by decide) (by decide)
  obtain ⟨v2, a2, b2, c2, l2, u2, e2⟩ := draw_ok ds a1 b1 c1 5 (by decide) (by decide)
  obtain ⟨v3, a3, b3, c3, l3, u3, e3⟩ := draw_ok ds a2 b2 c2 2 (by decide) (by decide)
  obtain ⟨v4, a4, b4, c4, l4, u4, e4⟩ := draw_ok ds a3 b3 c3 2 (by decide) (by decide)
  obtain ⟨v5, a5, b5, c5, l5, u5, e5⟩ := draw_ok ds a3 b3 c3 4 (by decide) (by decide)
  obtain ⟨v6, a6, b6, c6, l6, u6, e6⟩ := draw_ok ds a4 b4 c4 4 (by decide) (by decide)
  have hs : ∃ sh, (sh = 0 ∨ sh = 1 ∨ sh = 3 ∨ sh = -2) ∧ dIx (.lst [.int 0, .int 0, .int 1, .int 3, .int (-2)]) (.int v2) = some (.int sh) := by
    have : v2 = 0 ∨ v2 = 1 ∨ v2 = 2 ∨ v2 = 3 ∨ v2 = 4 := by omega
    rcases this with rfl | rfl | rfl | rfl | rfl
    · exact ⟨0, by decide, rfl⟩
    · exact ⟨0, by decide, rfl⟩
    · exact ⟨1, by decide, rfl⟩
    · exact ⟨3, by decide, rfl⟩
    · exact ⟨-2, by decide, rfl⟩
  obtain ⟨sh, hsh, hix⟩ := hs
  have hv3 : v3 = 0 ∨ v3 = 1 := by omega
  obtain ⟨k5, hk5⟩ : ∃ k, decide (v5 = 0) = k := ⟨_, rfl⟩
  obtain ⟨k6, hk6⟩ : ∃ k, decide (v6 = 0) = k := ⟨_, rfl⟩
  obtain ⟨k4, hk4⟩ : ∃ k, decide (v4 = 0) = k := ⟨_, rfl⟩
  rcases hv3 with rfl | rfl
  · refine ⟨a5, b5, c5, 0, false, sh, if k5 then 2 else 1, 1 + v1, .inl ⟨rfl, rfl⟩, hsh, by cases k5 <;> simp, by omega, ?_⟩
    refine run_rt (ρ' := [some (stO ds a5 b5 c5), some (.fz (spD "l" 0 false 0 (if k5 then 2 else 1) (1 + v1))), some (.fz (spD "r" 0 false sh (if k5 then 2 else 1) (1 + v1))), some (.fz (.int (1 + v1)))]) ?_
    unfold der_u_law_two
    dsimp only
    refine seq_nx (ρ1 := [some (stO ds a b c), some (spO "l" 0 false 0 1 3), none, none]) (by kernel_rfl) ?_
    refine seq_nx (ρ1 := [some (stO ds a b c), some (spO "l" 0 false 0 1 3), some (spO "r" 0 false 0 1 3), none]) (by kernel_rfl) ?_
    refine seq_nx (asg_k (fz_k (op_k rfl (dw e1) rfl))) ?_
    refine seq_nx (ρ1 := [some (stO ds a1 b1 c1), some (spO "l" 0 false 0 1 (1 + v1)), some (spO "r" 0 false 0 1 3), some (.fz (.int (1 + v1)))]) (by kernel_rfl) ?_
    refine seq_nx (ρ1 := [some (stO ds a1 b1 c1), some (spO "l" 0 false 0 1 (1 + v1)), some (spO "r" 0 false 0 1 (1 + v1)), some (.fz (.int (1 + v1)))]) (by kernel_rfl) ?_
    refine seq_nx (ρ1 := [some (stO ds a2 b2 c2), some (spO "l" 0 false 0 1 (1 + v1)), some (spO "r" 0 false sh 1 (1 + v1)), some (.fz (.int (1 + v1)))]) (put_c (op_k rfl (dw e2) hix) (by kernel_rfl)) ?_
    refine seq_nx (ρ1 := [some (stO ds a3 b3 c3), some (spO "l" 0 false 0 1 (1 + v1)), some (spO "r" 0 false sh 1 (1 + v1)), some (.fz (.int (1 + v1)))]) (put_c (dw e3) (by kernel_rfl)) ?_
    refine seq_nx (ρ1 := [some (stO ds a3 b3 c3), some (spO "l" 0 false 0 1 (1 + v1)), some (spO "r" 0 false sh 1 (1 + v1)), some (.fz (.int (1 + v1)))]) (put_c (and_f (ρ1 := [some (stO ds a3 b3 c3), some (spO "l" 0 false 0 1 (1 + v1)), some (spO "r" 0 false sh 1 (1 + v1)), some (.fz (.int (1 + v1)))]) (by kernel_rfl)) (by kernel_rfl)) ?_
    refine seq_nx (ρ1 := [some (stO ds a5 b5 c5), some (spO "l" 0 false 0 (if k5 then 2 else 1) (1 + v1)), some (spO "r" 0 false sh (if k5 then 2 else 1) (1 + v1)), some (.fz (.int (1 + v1)))]) (if_c (b_k (op_k (dw e5) rfl (d := .bl k5) (by rw [← hk5]; rfl))) ?_) ?_
    · cases k5 <;> kernel_rfl
    · kernel_rfl
  · refine ⟨a6, b6, c6, 1, k4, sh, if k6 then 2 else 1, 1 + v1, .inr rfl, hsh, by cases k6 <;> simp, by omega, ?_⟩
    refine run_rt (ρ' := [some (stO ds a6 b6 c6), some (.fz (spD "l" 0 false 0 (if k6 then 2 else 1) (1 + v1))), some (.fz (spD "r" 1 k4 sh (if k6 then 2 else 1) (1 + v1))), some (.fz (.int (1 + v1)))]) ?_
    unfold der_u_law_two
    dsimp only
    refine seq_nx (ρ1 := [some (stO ds a b c), some (spO "l" 0 false 0 1 3), none, none]) (by kernel_rfl) ?_
    refine seq_nx (ρ1 := [some (stO ds a b c), some (spO "l" 0 false 0 1 3), some (spO "r" 0 false 0 1 3), none]) (by kernel_rfl) ?_
    refine seq_nx (asg_k (fz_k (op_k rfl (dw e1) rfl))) ?_
    refine seq_nx (ρ1 := [some (stO ds a1 b1 c1), some (spO "l" 0 false 0 1 (1 + v1)), some (spO "r" 0 false 0 1 3), some (.fz (.int (1 + v1)))]) (by kernel_rfl) ?_
    refine seq_nx (ρ1 := [some (stO ds a1 b1 c1), some (spO "l" 0 false 0 1 (1 + v1)), some (spO "r" 0 false 0 1 (1 + v1)), some (.fz (.int (1 + v1)))]) (by kernel_rfl) ?_
    refine seq_nx (ρ1 := [some (stO ds a2 b2 c2), some (spO "l" 0 false 0 1 (1 + v1)), some (spO "r" 0 false sh 1 (1 + v1)), some (.fz (.int (1 + v1)))]) (put_c (op_k rfl (dw e2) hix) (by kernel_rfl)) ?_
    refine seq_nx (ρ1 := [some (stO ds a3 b3 c3), some (spO "l" 0 false 0 1 (1 + v1)), some (spO "r" 1 false sh 1 (1 + v1)), some (.fz (.int (1 + v1)))]) (put_c (dw e3) (by kernel_rfl)) ?_
    refine seq_nx (ρ1 := [some (stO ds a4 b4 c4), some (spO "l" 0 false 0 1 (1 + v1)), some (spO "r" 1 k4 sh 1 (1 + v1)), some (.fz (.int (1 + v1)))]) (put_c (and_t (ρ1 := [some (stO ds a3 b3 c3), some (spO "l" 0 false 0 1 (1 + v1)), some (spO "r" 1 false sh 1 (1 + v1)), some (.fz (.int (1 + v1)))]) (by kernel_rfl) (op_k (dw e4) rfl (d := .bl k4) (by rw [← hk4]; rfl))) (by kernel_rfl)) ?_
    refine seq_nx (ρ1 := [some (stO ds a6 b6 c6), some (spO "l" 0 false 0 (if k6 then 2 else 1) (1 + v1)), some (spO "r" 1 k4 sh (if k6 then 2 else 1) (1 + v1)), some (.fz (.int (1 + v1)))]) (if_c (b_k (op_k (dw e6) rfl (d := .bl k6) (by rw [← hk6]; rfl))) ?_) ?_
    · cases k6 <;> kernel_rfl
    · kernel_rfl
end Hd
set_option Elab.async false
set_option linter.all false
set_option maxRecDepth 100000
set_option maxHeartbeats 4000000
set_option autoImplicit false
/-! FM2: form, _law_form, sided, variable, times, plus, minus, image compute FM1's. -/
namespace Hd
open PySem PySem.Spec L2 PI
def dO (m : Prs) : O := .dct (m.map fun p => .inr p.1) (m.map fun p => .fz (.int p.2))
def dDD (m : Prs) : D := .dct (m.map fun p => .inr p.1) (m.map fun p => .int p.2)
theorem frzs_mapI : ∀ m : Prs, O.frzs (m.map fun p => .fz (.int p.2)) = m.map fun p => .int p.2
  | [] => rfl
  | p :: m => by simp [O.frzs, O.frz, frzs_mapI m]
theorem frz_dO (m : Prs) : (dO m).frz = dDD m := by simp [dO, dDD, O.frz, frzs_mapI]
theorem hasK_m (m : Prs) (n : Str) : hasK (m.map fun p => (.inr p.1 : Key)) (.inr n) = hasN m n := by
  unfold hasK hasN
  rw [List.any_map]
  congr 1
  funext p
  simp [Function.comp]
theorem lookD_m : ∀ (m : Prs) (n : Str), lookD (m.map fun p => (.inr p.1 : Key)) (m.map fun p => D.int p.2) (.inr n) = if hasN m n then some (.int (valP m n)) else none
  | [], n => rfl
  | p :: m, n => by
    simp only [List.map_cons, lookD, valP]
    by_cases h : p.1 = n
    · simp [h, hasN]
    · have e : hasN (p :: m) n = hasN m n := by simp [hasN, h]
      rw [if_neg (by simpa using h), lookD_m m n, e, if_neg h]
theorem val_none : ∀ {m : Prs} {n : Str}, hasN m n = false → valP m n = 0
  | [], _, _ => rfl
  | p :: m, n, h => by
    simp only [hasN, List.any_cons, Bool.or_eq_false_iff, decide_eq_false_iff_not] at h
    unfold valP
    rw [if_neg h.1]
    exact val_none h.2
theorem putO_m : ∀ (m : Prs) (n : Str) (k : Int), (m.map (·.1)).Nodup → putO (m.map fun p => (.inr p.1 : Key)) (m.map fun p => .fz (.int p.2)) (.inr n) (.int (valP m n + k)) = (m.map fun p => if p.1 = n then (p.1, p.2 + k) else p).map fun p => .fz (.int p.2)
  | [], _, _, _ => rfl
  | p :: m, n, k, h => by
    simp only [List.map_cons, List.nodup_cons] at h
    simp only [List.map_cons, putO, valP]
    by_cases e : p.1 = n
    · have e2 : (m.map fun q => if q.1 = n then (q.1, q.2 + k) else q) = m := by
        conv => rhs; rw [← List.map_id m]
        refine List.map_congr_left fun q hq => ?_
        rw [if_neg]
        · rfl
        · intro z
          exact h.1 (by rw [e, ← z]; exact List.mem_map_of_mem hq)
      rw [if_pos e, if_pos (by rw [e]), if_pos e, e2]
      congr 1
      clear e2 
      have : ∀ (m : Prs), (∀ q ∈ m, q.1 ≠ n) → ∀ x, putO (m.map fun p => (.inr p.1 : Key)) (m.map fun p => .fz (.int p.2)) (.inr n) x = m.map fun p => .fz (.int p.2) := by
        intro m
        induction m with
        | nil => intro _ x; rfl
        | cons q m ih =>
          intro hh x
          simp only [List.map_cons, putO]
          rw [if_neg (by simpa using hh q (by simp)), ih (fun r hr => hh r (by simp [hr]))]
      exact this m (fun q hq z => h.1 (by rw [e, ← z]; exact List.mem_map_of_mem hq)) _
    · rw [if_neg (by simpa using e), if_neg e, if_neg e, putO_m m n k h.2]
theorem putK_m (m : Prs) (n : Str) (k : Int) (h : (m.map (·.1)).Nodup) : (match hasK (m.map fun p => (.inr p.1 : Key)) (.inr n) with
    | true => O.dct (m.map fun p => (.inr p.1 : Key)) (putO (m.map fun p => (.inr p.1 : Key)) (m.map fun p => .fz (.int p.2)) (.inr n) (.int (valP m n + k)))
    | false => .dct ((m.map fun p => (.inr p.1 : Key)) ++ [.inr n]) ((m.map fun p => .fz (.int p.2)) ++ [.fz (.int (valP m n + k))])) = dO (addP m n k) := by
  rw [hasK_m]
  unfold addP
  cases e : hasN m n with
  | true =>
    simp only [if_true]
    unfold dO
    rw [putO_m m n k h]
    congr 1
    rw [List.map_map]
    refine List.map_congr_left fun q _ => ?_
    simp only [Function.comp]
    split <;> rfl
  | false =>
    rw [val_none e]
    simp [dO]
theorem get_m (m : Prs) (n : Str) : (match lookD (m.map fun p => (.inr p.1 : Key)) (m.map fun p => D.int p.2) (.inr n) with
    | some d => some (d, (0 : Nat))
    | none => some (.int 0, 0)) = some (.int (valP m n), 0) := by
  rw [lookD_m]
  cases e : hasN m n with
  | true => rfl
  | false => rw [val_none e]; rfl
abbrev putB : MS := sPut 2 (mVar 3) (mOp2 dAddG (mPeek (mGet (mVar 2) (mVar 3) (mC (D.int 0)))) (mVar 4))
theorem put_step (s0 s1 : Option O) (m : Prs) (n : Str) (k : Int) (h : (m.map (·.1)).Nodup) (hl : m.length < sizeLine) :
    putB [s0, s1, some (dO m), some (.fz (.str n)), some (.fz (.int k))] = some (.nx, [s0, s1, some (dO (addP m n k)), some (.fz (.str n)), some (.fz (.int k))]) := by
  have e1 : mGet (mVar 2) (mVar 3) (mC (D.int 0)) (viewAll [s0, s1, some (dO m), some (.fz (.str n)), some (.fz (.int k))]) = some (.int (valP m n), viewAll [s0, s1, some (dO m), some (.fz (.str n)), some (.fz (.int k))]) := by
    simp only [viewAll, List.map_cons, List.map_nil, Option.map_some, frz_dO, O.frz, dDD, mGet, mVar, mC, List.getElem?_cons_succ, List.getElem?_cons_zero, keyD, lookD_m]
    cases e : hasN m n with
    | true => rfl
    | false => rw [val_none e]; rfl
  have e2 : mOp2 dAddG (mPeek (mGet (mVar 2) (mVar 3) (mC (D.int 0)))) (mVar 4) [s0, s1, some (dO m), some (.fz (.str n)), some (.fz (.int k))] = some (.int (valP m n + k), [s0, s1, some (dO m), some (.fz (.str n)), some (.fz (.int k))]) :=
    ev_op (ev_peek e1) rfl rfl
  exact ev_put (i := 2) (gk := mVar 3) (ρ2 := [s0, s1, some (dO m), some (.fz (.str n)), some (.fz (.int k))]) e2 rfl rfl rfl rfl (by simpa using hl) (putK_m m n k h)
theorem put_loop (s0 s1 : Option O) : ∀ (ps m : Prs) (s3 s4 : Option O), (m.map (·.1)).Nodup → m.length + ps.length < sizeLine → ∃ s3' s4', (s3' = s3 ∨ ∃ d, s3' = some (.fz d)) ∧
    forLoop (gTupD 2 (gsCons (gSet 3) (gsCons (gSet 4) gsNil))) putB (ps.map pD) [s0, s1, some (dO m), s3, s4] = some (.nx, [s0, s1, some (dO (sumsG m ps)), s3', s4'])
  | [], m, s3, s4, _, _ => ⟨s3, s4, .inl rfl, rfl⟩
  | p :: ps, m, s3, s4, hn, hl => by
    obtain ⟨s3', s4', h3, e⟩ := put_loop s0 s1 ps (addP m p.1 p.2) (some (.fz (.str p.1))) (some (.fz (.int p.2))) (add_nodup _ _ hn) (by
      have := add_len m p.1 p.2
      simp at hl
      omega)
    refine ⟨s3', s4', .inr (h3.elim (fun z => ⟨_, z⟩) id), ?_⟩
    exact ev_for1 rfl (put_step s0 s1 m p.1 p.2 hn (by simp at hl; omega)) e
theorem txts_m : ∀ m : Prs, txts (m.map fun p => .inr p.1) = some (m.map (·.1))
  | [] => rfl
  | p :: m => by
    simp only [List.map_cons, txts, txts_m m]
theorem two_le {a b : D} : [a, b].length ≤ sizeLine := small (by simp)
abbrev outT : MB := bPeek (bOf (mOp2 dNeD (mOp2 dIx (mVar 2) (mVar 3)) (mC (D.int 0))))
abbrev outG : MD := mTup (dsCons (mVar 3) (dsCons (mPeek (mOp2 dIx (mVar 2) (mVar 3))) dsNil))
theorem view4 (s0 s1 : O) (m : Prs) (n : Str) (s4 : Option O) : viewAll [some s0, some s1, some (.fz (dDD m)), some (.fz (.str n)), s4] = [some (.fz s0.frz), some (.fz s1.frz), some (.fz (dDD m)), some (.fz (.str n)), s4.map fun t => .fz t.frz] := by
  simp [viewAll, O.frz]
theorem ix_m {m : Prs} {n : Str} (h : hasN m n = true) (s0 s1 s4 : Option O) : mOp2 dIx (mVar 2) (mVar 3) [s0, s1, some (.fz (dDD m)), some (.fz (.str n)), s4] = some (.int (valP m n), [s0, s1, some (.fz (dDD m)), some (.fz (.str n)), s4]) := by
  simp only [mOp2, mVar, List.getElem?_cons_succ, List.getElem?_cons_zero, dDD, dIx, keyD, lookD_m, h, if_true]
theorem out_loop (s0 s1 : O) (s4 : Option O) (m : Prs) : ∀ (ns : List Str), (∀ n ∈ ns, hasN m n = true) →
    compLoop [3] (gSet 3) outT outG (ns.map .str) [some s0, some s1, some (.fz (dDD m)), none, s4] = some ((keepP m ns).map pD, [some s0, some s1, some (.fz (dDD m)), none, s4])
  | [], _ => rfl
  | n :: ns, h => by
    have hn := h n (by simp)
    have e0 : outT [some s0, some s1, some (.fz (dDD m)), some (.fz (.str n)), s4] = some (!decide (valP m n = 0), [some s0, some s1, some (.fz (dDD m)), some (.fz (.str n)), s4]) :=
      ev_bpeek (ev_b (by rw [view4]; exact ev_op (ix_m hn _ _ _) rfl rfl))
    have e1 : outG [some s0, some s1, some (.fz (dDD m)), some (.fz (.str n)), s4] = some (pD (n, valP m n), [some s0, some s1, some (.fz (dDD m)), some (.fz (.str n)), s4]) :=
      ev_tup (ev_cons rfl (ev_one (ev_peek (by rw [view4]; exact ix_m hn _ _ _)))) two_le
    have ih := out_loop s0 s1 s4 m ns (fun x hx => h x (by simp [hx]))
    by_cases z : valP m n = 0
    · simp only [z, decide_true, Bool.not_true] at e0
      have e3 : keepP m (n :: ns) = keepP m ns := by simp [keepP, z]
      rw [e3]
      exact ev_comp0 rfl e0 ih
    · simp only [z, decide_false, Bool.not_false] at e0
      have e3 : keepP m (n :: ns) = (n, valP m n) :: keepP m ns := by simp [keepP, z]
      rw [e3]
      exact ev_comp1 rfl e0 e1 ih
theorem ixn (m : Prs) : ∀ n ∈ srtS (m.map (·.1)), hasN m n = true := fun n h => hasN_iff.mpr ((srtS_perm _).mem_iff.mp h)
theorem keep_len (m : Prs) (ns : List Str) : (keepP m ns).length ≤ ns.length := by
  have := (keep_names m ns).length_le
  simpa using this
theorem tup_end (s0 s1 : O) (m : Prs) (hl : m.length < 64) (s3 s4 : Option O) (h3 : s3 = none ∨ ∃ d, s3 = some (.fz d)) :
    mFn fTup (dsCons (mFrz (oComp (iSeq (mFn fSorted (dsCons (mTake 2) dsNil))) [3] (gSet 3) outT outG)) dsNil) [some s0, some s1, some (dO m), s3, s4] =
      some (.tup ((keepP m (srtS (m.map (·.1)))).map pD), [some s0, some s1, some (.fz (dDD m)), s3, s4]) := by
  have h0 : mTake 2 [some s0, some s1, some (dO m), s3, s4] = some (dDD m, [some s0, some s1, some (.fz (dDD m)), s3, s4]) := by
    simp only [mTake, List.getElem?_cons_succ, List.getElem?_cons_zero, frz_dO]
    rfl
  have hs : iSeq (mFn fSorted (dsCons (mTake 2) dsNil)) [some s0, some s1, some (dO m), s3, s4] = some ((srtS (m.map (·.1))).map .str, [some s0, some s1, some (.fz (dDD m)), s3, s4]) := by
    refine ev_seqL (ev_fn (ev_one h0) ?_)
    unfold fSorted dDD
    dsimp only
    rw [txts_m]
    dsimp only
    rw [decide_eq_true (by simpa using hl)]
  have hlen : (srtS (m.map (·.1))).length < 1000 := by
    rw [(srtS_perm _).length_eq]
    simp
    omega
  have hz : fzAt [some s0, some s1, some (.fz (dDD m)), s3, s4] [3] = true := by
    rcases h3 with rfl | ⟨d, rfl⟩ <;> rfl
  refine ev_fn (ev_one (ev_frz (ev_comp hs ?_ (out_loop s0 s1 s4 m _ (ixn m))) (frz_lst _))) rfl
  rw [hz, Bool.true_and]
  exact decide_eq_true (small (by simpa using hlen))
/-- what a def of forms returns, whatever it leaves -/
theorem form_go (b : MS) (c : Int) (X : O) (ps : Prs) (ρ1 : Rho) (hl : ps.length < 64) (s1 : O) (g : MI) (hg : g [some (.fz (.int c)), some X, some (.dct [] []), none, none] = some (ps.map pD, [some (.fz (.int c)), some s1, some (.dct [] []), none, none])) :
    ∃ s2 s3 s4, (sSeq (sAsg 2 fun ρ => some (O.dct [] [], ρ)) (sSeq (sFor g (gTupD 2 (gsCons (gSet 3) (gsCons (gSet 4) gsNil))) putB)
      (sRet (oFz (mTup (dsCons (mVar 0) (dsCons (mFn fTup (dsCons (mFrz (oComp (iSeq (mFn fSorted (dsCons (mTake 2) dsNil))) [3] (gSet 3) outT outG)) dsNil)) dsNil))))))) [some (.fz (.int c)), some X, none, none, none] =
      some (.rt (.fz (fD (c, nf ps))), [some (.fz (.int c)), some s1, s2, s3, s4]) := by
  obtain ⟨s3, s4, hs3, e⟩ := put_loop (some (.fz (.int c))) (some s1) ps [] none none (by simp) (by
    have : (64 : Nat) ≤ sizeLine := by decide
    simp
    omega)
  have hm : (sumsP ps).length < 64 := by
    have : (sumsP ps).length ≤ 0 + ps.length := sums_len ps []
    omega
  refine ⟨_, _, _, seq_nx (ev_asg rfl) (seq_nx (ev_for hg e) (ev_ret (ev_fz (ev_tup (ev_cons rfl (ev_one (tup_end _ _ _ hm _ _ hs3))) two_le))))⟩
theorem frzs_pD : ∀ ps : Prs, O.frzs (ps.map fun p => .fz (pD p)) = ps.map pD
  | [] => rfl
  | p :: ps => by simp [O.frzs, O.frz, frzs_pD ps]
/-- a list or tuple of pairs, owned or not -/
def seqP (ps : Prs) (X : O) : Prop := X = .fz (.tup (ps.map pD)) ∨ X = .fz (.lst (ps.map pD)) ∨ X = .lst (ps.map fun p => .fz (pD p))
theorem form_ok (c : Int) (ps : Prs) (X : O) (hX : seqP ps X) (hl : ps.length < 64) : ∃ s1, c_form [.fz (.int c), X] = some (.fz (fD (c, nf ps)), [some (.fz (.int c)), some s1]) := by
  obtain ⟨s1, hg⟩ : ∃ s1, iSeq (mTake 1) [some (.fz (.int c)), some X, some (.dct [] []), none, none] = some (ps.map pD, [some (.fz (.int c)), some s1, some (.dct [] []), none, none]) := by
    rcases hX with rfl | rfl | rfl
    · exact ⟨_, rfl⟩
    · exact ⟨_, rfl⟩
    · refine ⟨.fz (.lst (ps.map pD)), ev_seqL ?_⟩
      simp only [mTake, List.getElem?_cons_succ, List.getElem?_cons_zero, O.frz, frzs_pD]
      rfl
  obtain ⟨s2, s3, s4, e⟩ := form_go der_form.1 c X ps [] hl s1 _ hg
  refine ⟨s1, ?_⟩
  have h1 : (decide ([O.fz (.int c), X].length = 2) && PI.argsOk [1] 0 [O.fz (.int c), X]) = true := by
    rcases hX with rfl | rfl | rfl <;> rfl
  exact ev_run (ρ' := [some (.fz (.int c)), some s1, s2, s3, s4]) e h1 rfl rfl
theorem law_form_ok (c : Int) (ps : Prs) (X : D) (hX : X = .tup (ps.map pD) ∨ X = .lst (ps.map pD)) (hl : ps.length < 64) : ∃ as', c_u_law_form [.fz (.int c), .fz X] = some (.fz (fD (c, nf ps)), as') ∧ as'.length = 2 := by
  have hg : iSeq (mVar 1) [some (.fz (.int c)), some (.fz X), some (.dct [] []), none, none] = some (ps.map pD, [some (.fz (.int c)), some (.fz X), some (.dct [] []), none, none]) := by
    rcases hX with rfl | rfl <;> rfl
  obtain ⟨s2, s3, s4, e⟩ := form_go der_u_law_form.1 c (.fz X) ps [] hl _ _ hg
  exact ⟨_, ev_run (ρ' := [some (.fz (.int c)), some (.fz X), s2, s3, s4]) e rfl rfl rfl, rfl⟩
end Hd
set_option Elab.async false
set_option linter.all false
set_option maxRecDepth 100000
set_option maxHeartbeats 4000000
set_option autoImplicit false
/-! FM3: sided, _law_marked, times, plus, minus. -/
namespace Hd
open PySem PySem.Spec L2 PI
local macro_rules | `(tactic| get_elem_tactic_trivial) => `(tactic| (repeat' (first
  | with_reducible assumption
  | with_reducible apply seq_rt
  | with_reducible apply seq_nx
  | with_reducible apply ev_ret
  | with_reducible apply ev_asg2
  | with_reducible apply ev_append2
  | with_reducible apply ev_extend2
  | with_reducible apply ev_unp
  | with_reducible apply ev_aug2
  | with_reducible apply ev_fz
  | with_reducible apply ev_tup
  | with_reducible apply ev_lst
  | with_reducible apply ev_cons
  | with_reducible apply ev_op
  | with_reducible apply ev_op1
  | with_reducible apply ev_fn
  | with_reducible apply ev_frz
  | with_reducible apply ev_b
  | with_reducible apply ev_if
  | with_reducible apply ev_not
  | with_reducible apply ev_aCons
  | with_reducible apply ev_aLend
  | with_reducible apply ev_callD
  | with_reducible apply ev_call2
  | with_reducible exact add_str (by assumption)
  | assumption
  | exact two_le
  | dsimp only
  | exact rfl
  | exact small (by simp)
  | decide)))
def lenP (k : Nat) (ps : Prs) : Prop := ∀ p ∈ ps, p.1.length ≤ k
abbrev mkG : MD := mTup (dsCons (mOp2 dAddG (mVar 0) (mVar 2)) (dsCons (mVar 3) dsNil))
abbrev mk2 : MG := gTupD 2 (gsCons (gSet 2) (gsCons (gSet 3) gsNil))
theorem markPD (mk : Str) (f : Fm) (h : lenP 1000 f.2) (hm : mk.length < 100) (hn : f.2.length < 64) :
    oComp (iSeq (mOp2 dIx (mVar 1) (mC (D.int 1)))) [2, 3] mk2 bYes mkG [some (.fz (.str mk)), some (.fz (fD f)), none, none] = some (.lst (((markP mk f.2).map pD).map .fz), [some (.fz (.str mk)), some (.fz (fD f)), none, none]) := by
  have := comp_all (gi := iSeq (mOp2 dIx (mVar 1) (mC (D.int 1)))) (vs := [2, 3]) (b := mk2) (g := mkG) (ρ := [some (.fz (.str mk)), some (.fz (fD f)), none, none]) pD (fun p => pD (mk ++ p.1, p.2)) f.2 rfl rfl (by omega) (fun p hp =>
    ⟨[some (.fz (.str mk)), some (.fz (fD f)), some (.fz (.str p.1)), some (.fz (.int p.2))], _, rfl, ev_tup (ev_cons (ev_op rfl rfl (add_str (by have := h p hp; omega))) (ev_one rfl)) two_le, rfl⟩) rfl
  rw [this]
  simp [markP, Function.comp]
theorem mark_len {mk : Str} {ps : Prs} : (markP mk ps).length = ps.length := by simp [markP]
theorem lst_pD (ps : Prs) : O.lst ((ps.map pD).map .fz) = .lst (ps.map fun p => .fz (pD p)) := by simp
theorem sided_ok (mk : Str) (f : Fm) (hm : mk.length < 100) (ho : okP f.2) (hl : lenP 1000 f.2) (hn : f.2.length < 64) : ∃ as', c_sided [.fz (.str mk), .fz (fD f)] = some (.fz (fD (f.1, markP mk f.2)), as') ∧ as'.length = 2 := by
  obtain ⟨s1, e⟩ := form_ok f.1 (markP mk f.2) (.lst (((markP mk f.2).map pD).map .fz)) (.inr (.inr (lst_pD _))) (by rw [mark_len]; exact hn)
  rw [nf_id (mark_ok ho)] at e
  exact ⟨_, ev_run (ρ' := [some (.fz (.str mk)), some (.fz (fD f)), none, none]) (ev_ret (ev_call (ev_aCons (ev_fz rfl) (ev_aCons (markPD mk f hl hm hn) rfl)) rfl e rfl)) rfl rfl rfl, rfl⟩
theorem marked_ok (mk : Str) (f : Fm) (hm : mk.length < 100) (hl : lenP 1000 f.2) (hn : f.2.length < 64) : ∃ as', c_u_law_marked [.fz (.str mk), .fz (fD f)] = some (.fz (fD (f.1, markP mk f.2)), as') ∧ as'.length = 2 :=
  ⟨_, ev_run (ρ' := [some (.fz (.str mk)), some (.fz (fD f)), none, none]) (ev_ret (ev_fz (ev_tup (ev_cons (ev_op rfl rfl rfl) (ev_one (ev_fn (ev_one (ev_frz (markPD mk f hl hm hn) (frz_lst _))) rfl))) two_le))) rfl rfl rfl, rfl⟩
def scaleP (k : Int) (ps : Prs) : Prs := ps.map fun p => (p.1, k * p.2)
theorem times_ok (k : Int) (f : Fm) (hk : k ≠ 0) (hb : -1000 < k ∧ k < 1000) (hn : f.2.length < 64) : ∃ as', c_times [.fz (.int k), .fz (fD f)] = some (.fz (fD (k * f.1, scaleP k f.2)), as') ∧ as'.length = 2 := by
  have hb2 : -(2 ^ 64) < k ∧ k < 2 ^ 64 := by omega
  have hc : oComp (iSeq (mOp2 dIx (mVar 1) (mC (D.int 1)))) [2, 3] mk2 bYes (mTup (dsCons (mVar 2) (dsCons (mOp2 dMulG (mVar 0) (mVar 3)) dsNil))) [some (.fz (.int k)), some (.fz (fD f)), none, none] = some (.lst (((scaleP k f.2).map pD).map .fz), [some (.fz (.int k)), some (.fz (fD f)), none, none]) := by
    have := comp_all (gi := iSeq (mOp2 dIx (mVar 1) (mC (D.int 1)))) (vs := [2, 3]) (b := mk2) (g := mTup (dsCons (mVar 2) (dsCons (mOp2 dMulG (mVar 0) (mVar 3)) dsNil))) (ρ := [some (.fz (.int k)), some (.fz (fD f)), none, none]) pD (fun p => pD (p.1, k * p.2)) f.2 rfl rfl (by omega) (fun p hp =>
      ⟨[some (.fz (.int k)), some (.fz (fD f)), some (.fz (.str p.1)), some (.fz (.int p.2))], _, rfl, ev_tup (ev_cons rfl (ev_one (ev_op rfl rfl (mul_ok hb2)))) two_le, rfl⟩) rfl
    rw [this]
    simp [scaleP, Function.comp]
  refine ⟨_, ev_run (ρ' := [some (.fz (.int k)), some (.fz (fD f)), none, none]) (seq_nx (ρ1 := [some (.fz (.int k)), some (.fz (fD f)), none, none]) (ev_if (k := false) (ev_b (ev_op rfl rfl ?_)) rfl) (ev_ret (ev_fz (ev_tup (ev_cons (ev_op rfl rfl (mul_ok hb2)) (ev_one (ev_fn (ev_one (ev_frz hc (frz_lst _))) rfl))) two_le)))) rfl rfl rfl, rfl⟩
  show some (D.bl (decide (k = 0))) = _
  rw [decide_eq_false hk]
theorem plus_ok (f g : Fm) (hn : f.2.length + g.2.length < 64) : ∃ as', c_plus [.fz (fD f), .fz (fD g)] = some (.fz (fD (f.1 + g.1, if g.2 = [] then f.2 else nf (f.2 ++ g.2))), as') ∧ as'.length = 2 := by
  obtain ⟨g0, gs⟩ := g
  have hv : ∀ gs : Prs, ([O.fz (fD f), O.fz (fD (g0, gs))].map some ++ List.replicate (2 - 2) none) = [some (.fz (fD f)), some (.fz (fD (g0, gs)))] := fun _ => rfl
  cases gs with
  | nil =>
    have e : c_plus [.fz (fD f), .fz (fD (g0, []))] = some (.fz (fD (f.1 + g0, f.2)), [some (.fz (fD f)), some (.fz (fD (g0, [])))]) := by
      refine ev_run (ρ' := [some (.fz (fD f)), some (.fz (fD (g0, [])))]) ?_ rfl rfl rfl
      rw [hv]
      unfold der_plus
      dsimp only
      refine seq_rt (ev_if (k := true) (ev_not (k := false) rfl) ?_)
      get_elem_tactic_trivial
    exact ⟨_, e, rfl⟩
  | cons q gs =>
    obtain ⟨s1, e⟩ := form_ok (f.1 + g0) (f.2 ++ q :: gs) (.fz (.tup ((f.2 ++ q :: gs).map pD))) (.inl rfl) (by simpa using hn)
    rw [if_neg (by simp)]
    have e : c_plus [.fz (fD f), .fz (fD (g0, q :: gs))] = some (.fz (fD (f.1 + g0, nf (f.2 ++ q :: gs))), [some (.fz (fD f)), some (.fz (fD (g0, q :: gs)))]) := by
      refine ev_run (ρ' := [some (.fz (fD f)), some (.fz (fD (g0, q :: gs)))]) ?_ rfl rfl rfl
      rw [hv]
      unfold der_plus
      dsimp only
      refine seq_nx (ρ1 := [some (.fz (fD f)), some (.fz (fD (g0, q :: gs)))]) (ev_if (k := false) (ev_not (k := true) rfl) rfl) ?_
      have e3 : dAddG (.tup (f.2.map pD)) (.tup ((q :: gs).map pD)) = some (.tup ((f.2 ++ q :: gs).map pD)) := by
        rw [add_tup (by simp at hn ⊢; omega), List.map_append]
      get_elem_tactic_trivial
    exact ⟨_, e, rfl⟩
def minusF (f g : Fm) : Fm := (f.1 + -1 * g.1, if g.2 = [] then f.2 else nf (f.2 ++ scaleP (-1) g.2))
theorem minus_ok (f g : Fm) (hn : f.2.length + g.2.length < 64) : ∃ as', c_minus [.fz (fD f), .fz (fD g)] = some (.fz (fD (minusF f g)), as') ∧ as'.length = 2 := by
  obtain ⟨as1, e1, l1⟩ := times_ok (-1) g (by decide) (by decide) (by omega)
  obtain ⟨as2, e2, l2⟩ := plus_ok f (-1 * g.1, scaleP (-1) g.2) (by simpa [scaleP] using hn)
  have e3 : (if scaleP (-1) g.2 = [] then f.2 else nf (f.2 ++ scaleP (-1) g.2)) = (if g.2 = [] then f.2 else nf (f.2 ++ scaleP (-1) g.2)) := by
    cases g.2 <;> simp [scaleP]
  simp only [e3] at e2
  exact ⟨_, ev_run (ρ' := [some (.fz (fD f)), some (.fz (fD g))]) (ev_ret (ev_callD (ev_cons rfl (ev_one (ev_frz (ev_callD (ev_cons rfl (ev_one rfl)) e1 (by simpa using l1)) rfl))) e2 (by simpa using l2))) rfl rfl rfl, rfl⟩
end Hd
set_option Elab.async false
set_option linter.all false
set_option maxRecDepth 100000
set_option maxHeartbeats 4000000
set_option autoImplicit false
/-! FM4: image. -/
namespace Hd
open PySem PySem.Spec L2 PI
local macro_rules | `(tactic| get_elem_tactic_trivial) => `(tactic| (repeat' (first
  | with_reducible assumption
  | with_reducible apply seq_rt
  | with_reducible apply seq_nx
  | with_reducible apply ev_ret
  | with_reducible apply ev_asg2
  | with_reducible apply ev_append2
  | with_reducible apply ev_extend2
  | with_reducible apply ev_unp
  | with_reducible apply ev_aug2
  | with_reducible apply ev_fz
  | with_reducible apply ev_tup
  | with_reducible apply ev_lst
  | with_reducible apply ev_cons
  | with_reducible apply ev_op
  | with_reducible apply ev_op1
  | with_reducible apply ev_fn
  | with_reducible apply ev_frz
  | with_reducible apply ev_b
  | with_reducible apply ev_if
  | with_reducible apply ev_not
  | with_reducible apply ev_aCons
  | with_reducible apply ev_aLend
  | with_reducible apply ev_callD
  | with_reducible apply ev_call2
  | with_reducible exact add_str (by assumption)
  | assumption
  | exact two_le
  | dsimp only
  | exact rfl
  | exact small (by simp)
  | decide)))
abbrev Qrs := List (Str × Fm)
def qD (q : Str × Fm) : D := .tup [.str q.1, fD q.2]
def lookF : Qrs → Str → Option Fm
  | [], _ => none
  | q :: qs, n => if q.1 = n then some q.2 else lookF qs n
def imgC (qs : Qrs) : Int → Prs → Int
  | c, [] => c
  | c, p :: ps => match lookF qs p.1 with
    | some g => imgC qs (c + p.2 * g.1) ps
    | none => imgC qs c ps
def img1 (qs : Qrs) (p : Str × Int) : Prs := match lookF qs p.1 with
  | some g => scaleP p.2 g.2
  | none => [p]
def imgR (qs : Qrs) : Prs → Prs
  | [] => []
  | p :: ps => img1 qs p ++ imgR qs ps
def imgF (qs : Qrs) (f : Fm) : Fm := (imgC qs f.1 f.2, nf (imgR qs f.2))
def tabD (qs : Qrs) : D := .dct (qs.map fun q => .inr q.1) (qs.map fun q => fD q.2)
theorem hasK_mem (ks : List Key) (k : Key) : hasK ks k = true ↔ k ∈ ks := by
  unfold hasK
  simp [List.any_eq_true]
theorem tab_loop (ρ : Rho) (hρ : ρ.length = 10) : ∀ (qs q0 : Qrs), ((q0 ++ qs).map (·.1)).Nodup →
    dcLoop [5, 7] (gTupD 2 (gsCons (gSet 5) (gsCons (gSet 7) gsNil))) bYes (mVar 5) (mVar 7) (qs.map qD) (wipeR ρ [5, 7]) (q0.map fun q => .inr q.1) (q0.map fun q => fD q.2) = some ((q0 ++ qs).map fun q => .inr q.1, (q0 ++ qs).map fun q => fD q.2, wipeR ρ [5, 7])
  | [], q0, _ => by simp [dcLoop]
  | q :: qs, q0, h => by
    have ih := tab_loop ρ hρ qs (q0 ++ [q]) (by simpa using h)
    match ρ, hρ with
    | [r0, r1, r2, r3, r4, r5, r6, r7, r8, r9], _ =>
      have hk : hasK (q0.map fun q => (.inr q.1 : Key)) (.inr q.1) = false := by
        rw [Bool.eq_false_iff]
        intro z
        obtain ⟨x, hx, e⟩ := List.mem_map.mp ((hasK_mem _ _).mp z)
        have e : x.1 = q.1 := by simpa using e
        rw [List.map_append, List.nodup_append] at h
        exact h.2.2 x.1 (List.mem_map_of_mem hx) q.1 (by simp) e
      refine ev_dct1 (y := .str q.1) (x := fD q.2) (k := .inr q.1) (ρ1 := [r0, r1, r2, r3, r4, some (.fz (.str q.1)), r6, some (.fz (fD q.2)), r8, r9]) (ρ2 := [r0, r1, r2, r3, r4, some (.fz (.str q.1)), r6, some (.fz (fD q.2)), r8, r9]) rfl rfl rfl rfl rfl ?_
      unfold putKs putDs
      rw [hk]
      dsimp only
      have e1 : (q0.map fun q => (.inr q.1 : Key)) ++ [.inr q.1] = (q0 ++ [q]).map fun q => .inr q.1 := by simp
      have e2 : (q0.map fun q => fD q.2) ++ [fD q.2] = (q0 ++ [q]).map fun q => fD q.2 := by simp
      rw [e1, e2]
      have e3 : q0 ++ q :: qs = q0 ++ [q] ++ qs := by simp
      rw [e3]
      exact ih
theorem look_has : ∀ (qs : Qrs) (n : Str), hasK (qs.map fun q => (.inr q.1 : Key)) (.inr n) = (lookF qs n).isSome
  | [], _ => rfl
  | q :: qs, n => by
    have ih := look_has qs n
    simp only [List.map_cons, hasK, List.any_cons, lookF] at ih ⊢
    by_cases e : q.1 = n
    · simp [e]
    · rw [if_neg e, ih]
      simp [e]
theorem look_get : ∀ (qs : Qrs) (n : Str), lookD (qs.map fun q => (.inr q.1 : Key)) (qs.map fun q => fD q.2) (.inr n) = (lookF qs n).map fD
  | [], _ => rfl
  | q :: qs, n => by
    simp only [List.map_cons, lookD, lookF]
    by_cases e : q.1 = n
    · simp [e]
    · rw [if_neg (by simpa using e), if_neg e, look_get qs n]
abbrev imgB : MS := (sIf (bOf (mOp2 dIn (mVar 5) (mVar 2)))
                    (sSeq (sAsg 7 (oFz (mOp2 dIx (mVar 2) (mVar 5))))
                      (sSeq (sAugAdd 3 (mOp2 dMulG (mVar 6) (mOp2 dIx (mVar 7) (mC (D.int 0)))))
                        (sExtend 4
                          (mFrz
                            (oComp (iSeq (mOp2 dIx (mVar 7) (mC (D.int 1))))
                              [8, 9]
                              (gTupD 2 (gsCons (gSet 8) (gsCons (gSet 9) gsNil))) bYes
                              (mTup (dsCons (mVar 8) (dsCons (mOp2 dMulG (mVar 6) (mVar 9)) dsNil))))))))
                    (sAppend 4 (oFz (mTup (dsCons (mVar 5) (dsCons (mVar 6) dsNil))))))
theorem img_step (f0 q0 : D) (qs : Qrs) (c : Int) (rest : Prs) (p : Str × Int) (s7 : Option O) (hp : -1000000 ≤ p.2 ∧ p.2 ≤ 1000000) (hl : rest.length + (img1 qs p).length < 64) :
    ∃ s7', imgB [some (.fz f0), some (.fz q0), some (.fz (tabD qs)), some (.fz (.int c)), some (.lst ((rest.map pD).map .fz)), some (.fz (.str p.1)), some (.fz (.int p.2)), s7, none, none] =
      some (.nx, [some (.fz f0), some (.fz q0), some (.fz (tabD qs)), some (.fz (.int (match lookF qs p.1 with | some g => c + p.2 * g.1 | none => c))), some (.lst (((rest ++ img1 qs p).map pD).map .fz)), some (.fz (.str p.1)), some (.fz (.int p.2)), s7', none, none]) := by
  have hm : ∀ j, dMulG (.int p.2) (.int j) = some (.int (p.2 * j)) := fun j => mul_ok (by omega)
  cases e : lookF qs p.1 with
  | none =>
    have h1 : dIn (.str p.1) (tabD qs) = some (.bl false) := by
      show (match some (hasK _ _) with | some k => some (D.bl k) | none => none) = _
      rw [look_has, e]
      rfl
    have e1 : img1 qs p = [p] := by simp [img1, e]
    refine ⟨s7, ev_if (k := false) (ev_b (ev_op rfl rfl h1)) ?_⟩
    dsimp only
    rw [e1] at hl ⊢
    refine ev_append2 rfl (ev_fz (ev_tup (ev_cons rfl (ev_one rfl)) two_le)) rfl ?_ ?_
    · have : (1000 : Nat) < sizeLine := by decide
      simp at hl ⊢
      omega
    · simp [pD]
  | some g =>
    have h1 : dIn (.str p.1) (tabD qs) = some (.bl true) := by
      show (match some (hasK _ _) with | some k => some (D.bl k) | none => none) = _
      rw [look_has, e]
      rfl
    have h2 : dIx (tabD qs) (.str p.1) = some (fD g) := by
      show lookD _ _ (.inr p.1) = _
      rw [look_get, e]
      rfl
    have e1 : img1 qs p = scaleP p.2 g.2 := by simp [img1, e]
    have hg : g.2.length < 64 := by rw [e1] at hl; simp [scaleP] at hl; omega
    refine ⟨some (.fz (fD g)), ev_if (k := true) (ev_b (ev_op rfl rfl h1)) ?_⟩
    dsimp only
    refine seq_nx (ev_asg2 (ev_fz (ev_op rfl rfl h2)) rfl rfl) ?_
    refine seq_nx (ev_aug2 (b := p.2 * g.1) rfl (ev_op rfl rfl (hm _)) rfl rfl) ?_
    have hc := comp_all (gi := iSeq (mOp2 dIx (mVar 7) (mC (D.int 1)))) (vs := [8, 9]) (b := gTupD 2 (gsCons (gSet 8) (gsCons (gSet 9) gsNil))) (g := mTup (dsCons (mVar 8) (dsCons (mOp2 dMulG (mVar 6) (mVar 9)) dsNil)))
      (ρ := [some (.fz f0), some (.fz q0), some (.fz (tabD qs)), some (.fz (.int (c + p.2 * g.1))), some (.lst ((rest.map pD).map .fz)), some (.fz (.str p.1)), some (.fz (.int p.2)), some (.fz (fD g)), none, none]) pD (fun r => pD (r.1, p.2 * r.2)) g.2 rfl rfl (by omega) (fun r hr =>
      ⟨[some (.fz f0), some (.fz q0), some (.fz (tabD qs)), some (.fz (.int (c + p.2 * g.1))), some (.lst ((rest.map pD).map .fz)), some (.fz (.str p.1)), some (.fz (.int p.2)), some (.fz (fD g)), some (.fz (.str r.1)), some (.fz (.int r.2))], _, rfl, ev_tup (ev_cons rfl (ev_one (ev_op rfl rfl (hm _)))) two_le, rfl⟩) rfl
    refine ev_extend2 rfl (ev_frz hc (frz_lst _)) rfl rfl ?_ ?_
    · have : (1000 : Nat) ≤ sizeLine := by decide
      rw [e1] at hl
      simp [scaleP] at hl ⊢
      omega
    · rw [e1]
      simp [scaleP, Function.comp]
theorem img_loop (f0 q0 : D) (qs : Qrs) : ∀ (ps : Prs) (c : Int) (rest : Prs) (s5 s6 s7 : Option O), bndP 1000000 ps → rest.length + (imgR qs ps).length < 64 → ∃ s5' s6' s7',
    forLoop (gTupD 2 (gsCons (gSet 5) (gsCons (gSet 6) gsNil))) imgB (ps.map pD) [some (.fz f0), some (.fz q0), some (.fz (tabD qs)), some (.fz (.int c)), some (.lst ((rest.map pD).map .fz)), s5, s6, s7, none, none] =
      some (.nx, [some (.fz f0), some (.fz q0), some (.fz (tabD qs)), some (.fz (.int (imgC qs c ps))), some (.lst (((rest ++ imgR qs ps).map pD).map .fz)), s5', s6', s7', none, none])
  | [], c, rest, s5, s6, s7, _, _ => ⟨s5, s6, s7, by simp [forLoop, imgC, imgR]⟩
  | p :: ps, c, rest, s5, s6, s7, hb, hl => by
    simp only [imgR, List.length_append] at hl
    obtain ⟨s7a, e1⟩ := img_step f0 q0 qs c rest p s7 (hb p (by simp)) (by omega)
    obtain ⟨s5', s6', s7', e2⟩ := img_loop f0 q0 qs ps (match lookF qs p.1 with | some g => c + p.2 * g.1 | none => c) (rest ++ img1 qs p) (some (.fz (.str p.1))) (some (.fz (.int p.2))) s7a (fun r hr => hb r (by simp [hr])) (by simp; omega)
    refine ⟨s5', s6', s7', ?_⟩
    have h1 : imgC qs c (p :: ps) = imgC qs (match lookF qs p.1 with | some g => c + p.2 * g.1 | none => c) ps := by
      conv => lhs; unfold imgC
      cases lookF qs p.1 <;> rfl
    have h2 : rest ++ imgR qs (p :: ps) = rest ++ img1 qs p ++ imgR qs ps := by simp [imgR]
    rw [h1, h2]
    exact ev_for1 rfl e1 e2
theorem image_ok (f : Fm) (qs : Qrs) (hq : (qs.map (·.1)).Nodup) (hq2 : qs.length < 1000) (hb : bndP 1000000 f.2) (hl : (imgR qs f.2).length < 64) : ∃ as', c_image [.fz (fD f), .fz (.lst (qs.map qD))] = some (.fz (fD (imgF qs f)), as') ∧ as'.length = 2 := by
  have ht := tab_loop [some (.fz (fD f)), some (.fz (.lst (qs.map qD))), none, none, none, none, none, none, none, none] rfl qs [] (by simpa using hq)
  simp only [List.nil_append, List.map_nil] at ht
  obtain ⟨s5, s6, s7, e1⟩ := img_loop (fD f) (.lst (qs.map qD)) qs f.2 f.1 [] none none none hb (by simpa using hl)
  simp only [List.nil_append] at e1
  obtain ⟨s1, e2⟩ := form_ok (imgC qs f.1 f.2) (imgR qs f.2) (.lst (((imgR qs f.2).map pD).map .fz)) (.inr (.inr (lst_pD _))) hl
  have hd : oDc (iSeq (mVar 1)) [5, 7] (gTupD 2 (gsCons (gSet 5) (gsCons (gSet 7) gsNil))) bYes (mVar 5) (mVar 7) [some (.fz (fD f)), some (.fz (.lst (qs.map qD))), none, none, none, none, none, none, none, none] = some (.dct (qs.map fun q => .inr q.1) ((qs.map fun q => fD q.2).map .fz), [some (.fz (fD f)), some (.fz (.lst (qs.map qD))), none, none, none, none, none, none, none, none]) :=
    ev_dc (ρ1 := [some (.fz (fD f)), some (.fz (.lst (qs.map qD))), none, none, none, none, none, none, none, none]) rfl (by
      show (true && decide ((qs.map qD).length ≤ sizeLine)) = true
      rw [Bool.true_and]
      exact decide_eq_true (small (by simpa using hq2))) ht
  have hz : (O.dct (qs.map fun q => .inr q.1) ((qs.map fun q => fD q.2).map .fz)).frz = tabD qs := by simp only [O.frz, frzs_fz]; rfl
  refine ⟨_, ev_run (ρ' := [some (.fz (fD f)), some (.fz (.lst (qs.map qD))), some (.fz (tabD qs)), some (.fz (.int (imgC qs f.1 f.2))), some s1, s5, s6, s7, none, none]) ?_ rfl rfl rfl, rfl⟩
  refine seq_nx (ev_asg2 (ev_fz (ev_frz hd hz)) rfl rfl) ?_
  refine seq_nx (ev_asg2 (o := .fz (.int f.1)) rfl rfl rfl) ?_
  refine seq_nx (ev_asg2 (o := .lst []) rfl rfl rfl) ?_
  refine seq_nx (ev_for (ds := f.2.map pD) rfl e1) ?_
  exact ev_ret (ev_call2 (ev_aCons (o := .fz (.int (imgC qs f.1 f.2))) rfl (ev_aLend (o := .lst (((imgR qs f.2).map pD).map .fz)) rfl rfl)) rfl e2 rfl rfl)
end Hd
set_option Elab.async false
set_option linter.all false
set_option maxRecDepth 100000
set_option maxHeartbeats 4000000
set_option autoImplicit false
/-! FM5: _law_some_form. -/
namespace Hd
open PySem PySem.Spec L2 PI
local macro_rules | `(tactic| get_elem_tactic_trivial) => `(tactic| (repeat' (first
  | with_reducible assumption
  | with_reducible apply seq_rt
  | with_reducible apply seq_nx
  | with_reducible apply ev_ret
  | with_reducible apply ev_asg2
  | with_reducible apply ev_append2
  | with_reducible apply ev_extend2
  | with_reducible apply ev_unp
  | with_reducible apply ev_aug2
  | with_reducible apply ev_fz
  | with_reducible apply ev_tup
  | with_reducible apply ev_lst
  | with_reducible apply ev_cons
  | with_reducible apply ev_op
  | with_reducible apply ev_op1
  | with_reducible apply ev_fn
  | with_reducible apply ev_frz
  | with_reducible apply ev_b
  | with_reducible apply ev_if
  | with_reducible apply ev_not
  | with_reducible apply ev_aCons
  | with_reducible apply ev_aLend
  | with_reducible apply ev_callD
  | with_reducible apply ev_call2
  | with_reducible exact add_str (by assumption)
  | assumption
  | exact two_le
  | dsimp only
  | exact rfl
  | exact small (by simp)
  | decide)))
theorem call1s {fn : Fn} {st st' r : O} {s0 : Option O} {n : Int} {ρ : Rho} (h : fn [st, .fz (.int n)] = some (r, [some st', some (.fz (.int n))])) : mCall fn [some 1, none] (aLend 1 (aCons (oFz (mC (.int n))) aNil)) (s0 :: some st :: ρ) = some (r, s0 :: some st' :: ρ) := by
  simp [mCall, aLend, aCons, oFz, mC, aNil, gather, h, setL]
theorem dw1 {ds : List Int} {a b c a' b' c' v n : Int} {s0 : Option O} {ρ : Rho} (e : c_u_law_draw [stO ds a b c, .fz (.int n)] = some (.fz (.int v), [some (stO ds a' b' c'), some (.fz (.int n))])) : mFrz (mCall c_u_law_draw [some 1, none] (aLend 1 (aCons (oFz (mC (.int n))) aNil))) (s0 :: some (stO ds a b c) :: ρ) = some (.int v, s0 :: some (stO ds a' b' c') :: ρ) := frz_k (call1s e)
abbrev sfT : MB := bOf (mOp2 dEqD (mFrz (mCall c_u_law_draw [some 0, none] (aLend 0 (aCons (oFz (mC (D.int 2))) aNil)))) (mC (D.int 0)))
abbrev sfG : MD := mTup (dsCons (mVar 3) (dsCons (mOp2 dSub (mFrz (mCall c_u_law_draw [some 0, none] (aLend 0 (aCons (oFz (mC (D.int 5))) aNil)))) (mC (D.int 2))) dsNil))
theorem sf_loop (ds : List Int) (X : D) : ∀ (ns : List Str) (a b c : Int), ∃ (a' b' c' : Int) (found : Prs), (found.map (·.1)).Sublist ns ∧ bndP 2 found ∧
    compLoop [3] (gSet 3) sfT sfG (ns.map .str) [some (stO ds a b c), some (.fz X), none, none, none] = some (found.map pD, [some (stO ds a' b' c'), some (.fz X), none, none, none])
  | [], a, b, c => ⟨a, b, c, [], .slnil, fun _ h => by simp at h, rfl⟩
  | n :: ns, a, b, c => by
    obtain ⟨v1, a1, b1, c1, l1, u1, e1⟩ := draw_ok ds a b c 2 (by decide) (by decide)
    obtain ⟨v2, a2, b2, c2, l2, u2, e2⟩ := draw_ok ds a1 b1 c1 5 (by decide) (by decide)
    by_cases h0 : v1 = 0
    · obtain ⟨a', b', c', found, i1, i2, i3⟩ := sf_loop ds X ns a2 b2 c2
      refine ⟨a', b', c', (n, v2 - 2) :: found, i1.cons₂ n, fun p hp => ?_, ?_⟩
      · rcases List.mem_cons.mp hp with rfl | hp
        · exact ⟨by show -2 ≤ v2 - 2; omega, by show v2 - 2 ≤ 2; omega⟩
        · exact i2 p hp
      · have t1 : sfT [some (stO ds a b c), some (.fz X), none, some (.fz (.str n)), none] = some (true, [some (stO ds a1 b1 c1), some (.fz X), none, some (.fz (.str n)), none]) :=
          ev_b (ev_op (dw e1) rfl (by rw [h0]; rfl))
        exact ev_comp1 (ρ1 := [some (stO ds a b c), some (.fz X), none, some (.fz (.str n)), none]) rfl t1 (ev_tup (ev_cons rfl (ev_one (ev_op (dw e2) rfl rfl))) two_le) i3
    · obtain ⟨a', b', c', found, i1, i2, i3⟩ := sf_loop ds X ns a1 b1 c1
      refine ⟨a', b', c', found, i1.cons n, i2, ?_⟩
      have t1 : sfT [some (stO ds a b c), some (.fz X), none, some (.fz (.str n)), none] = some (false, [some (stO ds a1 b1 c1), some (.fz X), none, some (.fz (.str n)), none]) :=
        ev_b (ev_op (dw e1) rfl (by show some (D.bl (decide (v1 = 0))) = _; rw [decide_eq_false h0]))
      exact ev_comp0 (ρ1 := [some (stO ds a b c), some (.fz X), none, some (.fz (.str n)), none]) rfl t1 i3
theorem nz_loop (s0 s1 s2 : Option O) : ∀ (ps : Prs), compLoop [3, 4] (gTupD 2 (gsCons (gSet 3) (gsCons (gSet 4) gsNil))) (bOf (mOp2 dNeD (mVar 4) (mC (D.int 0)))) (mTup (dsCons (mVar 3) (dsCons (mVar 4) dsNil))) (ps.map pD) [s0, s1, s2, none, none] =
    some ((ps.filter fun p => decide (p.2 ≠ 0)).map pD, [s0, s1, s2, none, none])
  | [] => rfl
  | p :: ps => by
    have ih := nz_loop s0 s1 s2 ps
    have t : bOf (mOp2 dNeD (mVar 4) (mC (D.int 0))) [s0, s1, s2, some (.fz (.str p.1)), some (.fz (.int p.2))] = some (!decide (p.2 = 0), [s0, s1, s2, some (.fz (.str p.1)), some (.fz (.int p.2))]) := ev_b (ev_op rfl rfl rfl)
    by_cases h : p.2 = 0
    · rw [decide_eq_true h] at t
      have e : (p :: ps).filter (fun p => decide (p.2 ≠ 0)) = ps.filter fun p => decide (p.2 ≠ 0) := by simp [h]
      rw [e]
      exact ev_comp0 rfl t ih
    · rw [decide_eq_false h] at t
      have e : (p :: ps).filter (fun p => decide (p.2 ≠ 0)) = p :: ps.filter fun p => decide (p.2 ≠ 0) := by simp [h]
      rw [e]
      exact ev_comp1 rfl t (ev_tup (ev_cons rfl (ev_one rfl)) two_le) ih
theorem nf_bnd {B : Int} {ps : Prs} (hn : (ps.map (·.1)).Nodup) (hb : bndP B ps) : bndP B (nf ps) := by
  have e : sumsP ps = ps := by
    show sumsG [] ps = ps
    rw [sums_id ps [] (by simpa using hn)]
    rfl
  have : ∀ (ns : List Str), (∀ n ∈ ns, n ∈ ps.map (·.1)) → bndP B (keepP ps ns) := by
    intro ns
    induction ns with
    | nil => intro _ p hp; simp [keepP] at hp
    | cons n ns ih =>
      intro hh p hp
      unfold keepP at hp
      split at hp
      · exact ih (fun m hm => hh m (by simp [hm])) p hp
      · rcases List.mem_cons.mp hp with rfl | hp
        · obtain ⟨q, hq, rfl⟩ := List.mem_map.mp (hh n (by simp))
          show -B ≤ valP ps q.1 ∧ valP ps q.1 ≤ B
          rw [val_mem hn hq]
          exact hb q hq
        · exact ih (fun m hm => hh m (by simp [hm])) p hp
  unfold nf
  rw [e]
  exact this _ fun n hn => (srtS_perm _).mem_iff.mp hn
def nzP (ps : Prs) : Prs := ps.filter fun p => decide (p.2 ≠ 0)
/-- what a drawn form is -/
structure DrawnF (ns : List Str) (f : Fm) : Prop where
  ok : okP f.2
  sub : ∀ n ∈ f.2.map (·.1), n ∈ ns
  bnd : bndP 2 f.2
  len : f.2.length ≤ ns.length
theorem some_form_ok (ds : List Int) (a b c : Int) (ns : List Str) (X : D) (hX : X = .tup (ns.map .str) ∨ X = .lst (ns.map .str)) (hn : ns.Nodup) (hl : ns.length < 60) : ∃ (a' b' c' : Int) (f : Fm), DrawnF ns f ∧
    c_u_law_some_form [stO ds a b c, .fz X] = some (.fz (fD f), [some (stO ds a' b' c'), some (.fz X)]) := by
  obtain ⟨a1, b1, c1, found, i1, i2, i3⟩ := sf_loop ds X ns a b c
  obtain ⟨v2, a2, b2, c2, l2, u2, e2⟩ := draw_ok ds a1 b1 c1 5 (by decide) (by decide)
  have hlen : found.length ≤ ns.length := by simpa using i1.length_le
  have hlen2 : (nzP found).length ≤ found.length := List.length_filter_le _ _
  have hnd : ((nzP found).map (·.1)).Nodup := ((List.filter_sublist (l := found) (p := fun p => decide (p.2 ≠ 0))).map (·.1)).nodup (i1.nodup hn)
  obtain ⟨as', e3, h3⟩ := law_form_ok (v2 - 2) (nzP found) (.lst ((nzP found).map pD)) (.inr rfl) (by omega)
  have hi : iSeq (mVar 1) [some (stO ds a b c), some (.fz X), none, none, none] = some (ns.map .str, [some (stO ds a b c), some (.fz X), none, none, none]) := by
    rcases hX with rfl | rfl <;> rfl
  refine ⟨a2, b2, c2, (v2 - 2, nf (nzP found)), ⟨nf_ok _, fun n hn => ?_, nf_bnd hnd (fun p hp => i2 p (List.mem_filter.mp hp).1), Nat.le_trans (nf_len _) (by omega)⟩, ?_⟩
  · have h1 := nf_names _ n hn
    have h2 := ((List.filter_sublist (l := found) (p := fun p => decide (p.2 ≠ 0))).map (·.1)).subset h1
    exact i1.subset h2
  · have hc := ev_comp (vs := [3]) hi (by
      show (true && decide ((ns.map D.str).length ≤ sizeLine)) = true
      rw [Bool.true_and]
      exact decide_eq_true (small (by simp; omega))) i3
    have hc2 := ev_comp (gi := iSeq (mVar 2)) (vs := [3, 4]) (ρ := [some (stO ds a2 b2 c2), some (.fz X), some (.fz (.lst (found.map pD))), none, none]) (ds := found.map pD) rfl (by
      show (true && decide ((found.map pD).length ≤ sizeLine)) = true
      rw [Bool.true_and]
      exact decide_eq_true (small (by simp; omega))) (nz_loop _ _ _ found)
    refine ev_run (ρ' := [some (stO ds a2 b2 c2), some (.fz X), some (.fz (.lst (found.map pD))), none, none]) ?_ rfl rfl rfl
    refine seq_nx (ev_asg2 (ev_fz (ev_frz hc (frz_lst _))) rfl rfl) ?_
    exact ev_ret (ev_callD (ev_cons (ev_op (dw e2) rfl rfl) (ev_one (ev_frz hc2 (frz_lst _)))) e3 h3)
end Hd
set_option Elab.async false
set_option linter.all false
set_option maxRecDepth 100000
set_option maxHeartbeats 4000000
set_option autoImplicit false
/-! FM6: _law_same of a thing and itself. -/
namespace Hd
open PySem PySem.Spec L2 PI
mutual
def sameD : Nat → D → Bool
  | _, .int _ => true
  | _, .str _ => true
  | n, .tup ds => (match n with | n + 1 => decide (ds.length < 1000) && sameDs n ds | 0 => false)
  | _, _ => false
def sameDs : Nat → List D → Bool
  | _, [] => true
  | n, d :: ds => sameD n d && sameDs n ds
end
theorem sameDs_mem : ∀ {n : Nat} {ds : List D} {d : D}, sameDs n ds = true → d ∈ ds → sameD n d = true
  | n, [], d, _, h => by simp at h
  | n, e :: ds, d, h, hd => by
    simp only [sameDs, Bool.and_eq_true] at h
    rcases List.mem_cons.mp hd with rfl | hd
    · exact h.1
    · exact sameDs_mem h.2 hd
theorem sameDs_of : ∀ {n : Nat} {ds : List D}, (∀ d ∈ ds, sameD n d = true) → sameDs n ds = true
  | n, [], _ => rfl
  | n, d :: ds, h => by
    simp only [sameDs, Bool.and_eq_true]
    exact ⟨h d (by simp), sameDs_of fun e he => h e (by simp [he])⟩
theorem atI_nat {α : Type} {xs : List α} {i : Nat} {x : α} (h : xs[i]? = some x) : atI xs (0 + (i : Int)) = some x := by
  have hi := (List.getElem?_eq_some_iff.mp h).1
  unfold atI ixN
  rw [if_pos (by omega), if_pos (by omega)]
  simp [h]
theorem bls_true : ∀ n : Nat, blsD (List.replicate n (D.bl true)) = some (List.replicate n true)
  | 0 => rfl
  | n + 1 => by simp [List.replicate_succ, blsD, bls_true n]
theorem isi_k {T t : String} {g : MD} {ρ ρ1 : Rho} {d : D} {k : Bool} (e : g ρ = some (d, ρ1)) (ht : d.ty = some t) (hk : kitB t T = some k) : mIsi T g ρ = some (.bl k, ρ1) := by
  unfold mIsi; rw [e]; dsimp only; rw [ht]; dsimp only; rw [hk]
theorem kit_tt : kitB "tuple" "tuple" = some true := by kernel_rfl
theorem kit_ti : kitB "int" "tuple" = some false := by kernel_rfl
theorem kit_ts : kitB "str" "tuple" = some false := by kernel_rfl
theorem kit_si : kitB "int" "str" = some false := by kernel_rfl
theorem kit_ss : kitB "str" "str" = some true := by kernel_rfl
theorem kit_ii : kitB "int" "int" = some true := by kernel_rfl
theorem kit_bi : kitB "int" "bool" = some false := by kernel_rfl
theorem tru_k {g : MD} {ρ ρ1 : Rho} {d : D} {k : Bool} (e : g ρ = some (d, ρ1)) (h : dTru d = some k) : bTru g ρ = some (k, ρ1) := by
  unfold bTru; rw [e]; dsimp only; rw [h]
theorem is_int_ok (i : Int) : c_u_law_is_int [.fz (.int i)] = some (.fz (.bl true), [some (.fz (.int i))]) := by kernel_rfl
theorem same_int (self : Fn) (i : Int) : ∃ as', runDef 2 3 [] (der_u_law_same self).1 [.fz (.int i), .fz (.int i)] = some (.fz (.bl true), as') ∧ as'.length = 2 := by
  refine ⟨_, ev_run (ρ' := [some (.fz (.int i)), some (.fz (.int i)), none]) ?_ rfl rfl rfl, rfl⟩
  unfold der_u_law_same
  dsimp only
  refine seq_nx (ρ1 := [some (.fz (.int i)), some (.fz (.int i)), none]) (ev_if (k := false) (tru_k (isi_k (d := .int i) rfl rfl kit_ti) rfl) rfl) ?_
  refine seq_nx (ρ1 := [some (.fz (.int i)), some (.fz (.int i)), none]) (ev_if (k := false) (tru_k (isi_k (d := .int i) rfl rfl kit_si) rfl) rfl) ?_
  refine ev_ret (ev_fz (and_t (ev_frz (ev_callD (ev_one (d := .int i) rfl) (is_int_ok i) rfl) rfl) (ev_op rfl rfl ?_)))
  show some (D.bl (decide (i = i))) = _
  simp
theorem same_str (self : Fn) (s : Str) : ∃ as', runDef 2 3 [] (der_u_law_same self).1 [.fz (.str s), .fz (.str s)] = some (.fz (.bl true), as') ∧ as'.length = 2 := by
  refine ⟨_, ev_run (ρ' := [some (.fz (.str s)), some (.fz (.str s)), none]) ?_ rfl rfl rfl, rfl⟩
  unfold der_u_law_same
  dsimp only
  refine seq_nx (ρ1 := [some (.fz (.str s)), some (.fz (.str s)), none]) (ev_if (k := false) (tru_k (isi_k (d := .str s) rfl rfl kit_ts) rfl) rfl) ?_
  refine seq_rt (ev_if (k := true) (tru_k (isi_k (d := .str s) rfl rfl kit_ss) rfl) (ev_ret (ev_fz (and_t (isi_k (d := .str s) rfl rfl kit_ss) (ev_op rfl rfl ?_)))))
  show some (D.bl (decide (s = s))) = _
  simp
theorem len_ne (ds : List D) : bOf (mOp2 dNeD (mFn fLen (dsCons (mVar 0) dsNil)) (mFn fLen (dsCons (mVar 1) dsNil))) [some (.fz (.tup ds)), some (.fz (.tup ds)), none] = some (false, [some (.fz (.tup ds)), some (.fz (.tup ds)), none]) := by
  refine ev_b (ev_op (x := .int (ds.length : Int)) (y := .int (ds.length : Int)) rfl rfl ?_)
  show some (D.bl (!decide ((ds.length : Int) = (ds.length : Int)))) = _
  simp
theorem rng_ok (ds : List D) (hl : ds.length < 1000) : iRange1 (mFn fLen (dsCons (mVar 1) dsNil)) [some (.fz (.tup ds)), some (.fz (.tup ds)), none] = some ((List.range ds.length).map fun (i : Nat) => D.int (0 + (i : Int)), [some (.fz (.tup ds)), some (.fz (.tup ds)), none]) := by
  exact ev_rng (j := (ds.length : Int)) rfl (inRange_ok hl) rfl
theorem same_tup {self : Fn} (ds : List D) (hl : ds.length < 1000) (hs : ∀ d ∈ ds, ∃ as', self [.fz d, .fz d] = some (.fz (.bl true), as') ∧ as'.length = 2) : ∃ as', runDef 2 3 [] (der_u_law_same self).1 [.fz (.tup ds), .fz (.tup ds)] = some (.fz (.bl true), as') ∧ as'.length = 2 := by
    refine ⟨_, ev_run (ρ' := [some (.fz (.tup ds)), some (.fz (.tup ds)), none]) ?_ rfl rfl rfl, rfl⟩
    unfold der_u_law_same
    dsimp only
    have hlen := len_ne ds
    refine seq_rt (ev_if (k := true) (tru_k (isi_k (d := .tup ds) rfl rfl kit_tt) rfl) ?_)
    dsimp only
    refine seq_nx (ρ1 := [some (.fz (.tup ds)), some (.fz (.tup ds)), none]) (ev_if (k := false) (ev_orF (ev_not (k := true) (tru_k (isi_k (d := .tup ds) rfl rfl kit_tt) rfl)) hlen) rfl) ?_
    have hr := rng_ok ds hl
    have hc := comp_all (vs := [2]) (b := gSet 2) (g := mFrz (oCallD self (dsCons (mOp2 dIx (mVar 0) (mVar 2)) (dsCons (mOp2 dIx (mVar 1) (mVar 2)) dsNil)))) (fun (i : Nat) => D.int (0 + (i : Int))) (fun _ => D.bl true) (List.range ds.length) hr rfl (by simpa using hl) (fun i hi => by
      have hi : i < ds.length := List.mem_range.mp hi
      obtain ⟨as', e1, e2⟩ := hs ds[i] (List.getElem_mem hi)
      have e3 : dIx (.tup ds) (.int (0 + (i : Int))) = some ds[i] := atI_nat (by simp [hi])
      exact ⟨[some (.fz (.tup ds)), some (.fz (.tup ds)), some (.fz (.int (0 + (i : Int))))], _, rfl, ev_frz (ev_callD (ev_cons (ev_op rfl rfl e3) (ev_one (ev_op rfl rfl e3))) e1 e2) rfl, rfl⟩) rfl
    refine ev_ret (ev_fz (ev_fn (ev_one (ev_frz hc (frz_lst _))) ?_))
    have : (List.range ds.length).map (fun _ => D.bl true) = List.replicate ds.length (.bl true) := by rw [List.map_const']; simp
    rw [this]
    show (match blsD (List.replicate ds.length (D.bl true)) with
      | some bs => some (D.bl (bs.all id))
      | none => none) = _
    rw [bls_true]
    simp
theorem same_r : ∀ (n : Nat) (d : D), sameD n d = true → ∃ as', r_u_law_same (n + 1) [.fz d, .fz d] = some (.fz (.bl true), as') ∧ as'.length = 2
  | n, .int i, _ => same_int _ i
  | n, .str s, _ => same_str _ s
  | n + 1, .tup ds, h => by
    simp only [sameD, Bool.and_eq_true, decide_eq_true_eq] at h
    exact same_tup ds h.1 fun d hd => same_r n d (sameDs_mem h.2 hd)
  | 0, .tup ds, h => by simp [sameD] at h
  | n, .non, h => by simp [sameD] at h
  | n, .bl b, h => by simp [sameD] at h
  | n, .lst ds, h => by simp [sameD] at h
  | n, .rol ds, h => by simp [sameD] at h
  | n, .dct ks ds, h => by simp [sameD] at h
  | n, .obj c ns ds, h => by simp [sameD] at h
theorem same_ok (d : D) (h : sameD 11 d = true) : ∃ as', c_u_law_same [.fz d, .fz d] = some (.fz (.bl true), as') ∧ as'.length = 2 := same_r 11 d h
end Hd
set_option Elab.async false
set_option linter.all false
set_option maxRecDepth 100000
set_option maxHeartbeats 4000000
set_option autoImplicit false
/-! FM7: names of procedures: inputs, outcomes. -/
namespace Hd
open PySem PySem.Spec L2 PI
local macro_rules | `(tactic| get_elem_tactic_trivial) => `(tactic| (repeat' (first
  | with_reducible assumption
  | with_reducible apply seq_rt
  | with_reducible apply seq_nx
  | with_reducible apply ev_ret
  | with_reducible apply ev_asg2
  | with_reducible apply ev_append2
  | with_reducible apply ev_extend2
  | with_reducible apply ev_unp
  | with_reducible apply ev_aug2
  | with_reducible apply ev_fz
  | with_reducible apply ev_tup
  | with_reducible apply ev_lst
  | with_reducible apply ev_cons
  | with_reducible apply ev_op
  | with_reducible apply ev_op1
  | with_reducible apply ev_fn
  | with_reducible apply ev_frz
  | with_reducible apply ev_b
  | with_reducible apply ev_if
  | with_reducible apply ev_not
  | with_reducible apply ev_aCons
  | with_reducible apply ev_aLend
  | with_reducible apply ev_callD
  | with_reducible apply ev_call2
  | with_reducible exact add_str (by assumption)
  | assumption
  | exact two_le
  | dsimp only
  | exact rfl
  | exact small (by simp)
  | decide)))
theorem ix_nat {xs : List D} {n : Nat} {x : D} (h : xs[n]? = some x) : dIx (.tup xs) (.int (n : Int)) = some x := by
  have := atI_nat h
  rw [Int.zero_add] at this
  exact this
theorem ix0 {x : D} {xs : List D} : dIx (.tup (x :: xs)) (.int 0) = some x := ix_nat (n := 0) rfl
theorem ix1 {x y : D} {xs : List D} : dIx (.tup (x :: y :: xs)) (.int 1) = some y := ix_nat (n := 1) rfl
/-- a parameter: is it an array, and its name -/
abbrev It := Bool × Str
def kindS : Bool → Str
  | true => "array"
  | false => "int"
def itD (i : It) : D := .tup [.str (kindS i.1), .str i.2]
def varS (i : It) : Str := match i.1 with
  | true => "#" ++ i.2
  | false => i.2
theorem lenH : (Str.ofString "#").length = 1 := by decide
theorem addH {a : Str} (h : a.length < 1000) : dAddG (.str (Str.ofString "#")) (.str a) = some (.str ("#" ++ a)) := add_str (by rw [lenH]; omega)
theorem var_ok (i : It) (h : i.2.length < 1000) : c_variable_of [.fz (itD i)] = some (.fz (.str (varS i)), [some (.fz (itD i))]) := by
  obtain ⟨k, s⟩ := i
  have h : s.length < 1000 := h
  cases k with
  | true =>
    refine ev_run (ρ' := [some (.fz (itD (true, s)))]) ?_ rfl rfl rfl
    unfold der_variable_of
    dsimp only
    exact seq_rt (ev_if (k := true) (ρ1 := [some (.fz (itD (true, s)))]) (by kernel_rfl) (ev_ret (ev_fz (ev_op (y := .str s) rfl rfl (addH h)))))
  | false =>
    refine ev_run (ρ' := [some (.fz (itD (false, s)))]) ?_ rfl rfl rfl
    unfold der_variable_of
    dsimp only
    exact seq_nx (ρ1 := [some (.fz (itD (false, s)))]) (ev_if (k := false) (ρ1 := [some (.fz (itD (false, s)))]) (by kernel_rfl) rfl) rfl
theorem var_len (i : It) : (varS i).length ≤ i.2.length + 1 := by
  obtain ⟨k, s⟩ := i
  cases k with
  | true =>
    show ("#" ++ s).length ≤ _
    rw [len_app]
    have : ("#" : Str).length = 1 := by decide
    show _ ≤ s.length + 1
    omega
  | false => exact Nat.le_succ _
def shortI (its : List It) : Prop := ∀ i ∈ its, i.2.length < 1000
theorem inputs_proc_ok (its : List It) (p0 : D) (rest : List D) (h : shortI its) (hl : its.length < 1000) : c_inputs_of_proc [.fz (.tup (p0 :: .tup (its.map itD) :: rest))] = some (.fz (.tup (its.map fun i => .str ("@" ++ varS i))), [some (.fz (.tup (p0 :: .tup (its.map itD) :: rest)))]) := by
  have hc := comp_all (gi := iSeq (mOp2 dIx (mVar 0) (mC (D.int 1)))) (vs := [1]) (b := gSet 1) (g := mOp2 dAddG (mC (D.str (Str.ofString "@"))) (mFrz (oCallD c_variable_of (dsCons (mVar 1) dsNil))))
    (ρ := [some (.fz (.tup (p0 :: .tup (its.map itD) :: rest))), none]) (ρ1 := [some (.fz (.tup (p0 :: .tup (its.map itD) :: rest))), none]) itD (fun i => .str ("@" ++ varS i)) its (ev_seqT (ev_op rfl rfl ix1)) rfl hl (fun i hi => by
      have e := var_ok i (h i hi)
      have e2 : dAddG (.str (Str.ofString "@")) (.str (varS i)) = some (.str ("@" ++ varS i)) := add_str (by
        have := var_len i
        have := h i hi
        have : (Str.ofString "@").length = 1 := by decide
        omega)
      exact ⟨[some (.fz (.tup (p0 :: .tup (its.map itD) :: rest))), some (.fz (itD i))], [some (.fz (.tup (p0 :: .tup (its.map itD) :: rest))), some (.fz (itD i))], rfl, ev_op rfl (ev_frz (ev_callD (ev_one (d := itD i) rfl) e rfl) rfl) e2, rfl⟩) rfl
  exact ev_run (ρ' := [some (.fz (.tup (p0 :: .tup (its.map itD) :: rest))), none]) (ev_ret (ev_fz (ev_fn (ev_one (ev_frz hc (frz_lst _))) rfl))) rfl rfl rfl
/-- a procedure: its name and the rest -/
def prD (p : Str × List D) : D := .tup (.str p.1 :: p.2)
theorem named_loop (s0 : Option O) (n : Str) : ∀ (ps : List (Str × List D)), compLoop [2] (gSet 2) (bOf (mOp2 dEqD (mOp2 dIx (mVar 2) (mC (D.int 0))) (mVar 1))) (mVar 2) (ps.map prD) [s0, some (.fz (.str n)), none] =
    some ((ps.filter fun p => decide (p.1 = n)).map prD, [s0, some (.fz (.str n)), none])
  | [] => rfl
  | p :: ps => by
    have ih := named_loop s0 n ps
    have t : bOf (mOp2 dEqD (mOp2 dIx (mVar 2) (mC (D.int 0))) (mVar 1)) [s0, some (.fz (.str n)), some (.fz (prD p))] = some (decide (p.1 = n), [s0, some (.fz (.str n)), some (.fz (prD p))]) := ev_b (ev_op (x := .str p.1) (y := .str n) (ev_op rfl rfl ix0) rfl rfl)
    by_cases h : p.1 = n
    · rw [decide_eq_true h] at t
      have e : (p :: ps).filter (fun p => decide (p.1 = n)) = p :: ps.filter fun p => decide (p.1 = n) := by simp [h]
      rw [e]
      exact ev_comp1 rfl t rfl ih
    · rw [decide_eq_false h] at t
      have e : (p :: ps).filter (fun p => decide (p.1 = n)) = ps.filter fun p => decide (p.1 = n) := by simp [h]
      rw [e]
      exact ev_comp0 rfl t ih
theorem named_ok (ps : List (Str × List D)) (n : Str) (p : Str × List D) (more : List (Str × List D)) (h : (ps.filter fun p => decide (p.1 = n)) = p :: more) (hl : ps.length < 1000) : c_proc_named [.fz (.tup (ps.map prD)), .fz (.str n)] = some (.fz (prD p), [some (.fz (.tup (ps.map prD))), some (.fz (.str n))]) := by
  have hc := ev_comp (gi := iSeq (mVar 0)) (vs := [2]) (ρ := [some (.fz (.tup (ps.map prD))), some (.fz (.str n)), none]) rfl (by
    show (true && decide ((ps.map prD).length ≤ sizeLine)) = true
    rw [Bool.true_and]
    exact decide_eq_true (small (by simpa using hl))) (named_loop _ n ps)
  rw [h] at hc
  refine ev_run (ρ' := [some (.fz (.tup (ps.map prD))), some (.fz (.str n)), none]) (ev_ret (ev_fz (ev_op (ev_frz hc (frz_lst _)) rfl ?_))) rfl rfl rfl
  show atI (prD p :: more.map prD) 0 = _
  unfold atI ixN
  rw [if_pos (by omega), if_pos (by simp)]
  rfl
theorem inputs_ok (ps : List (Str × List D)) (n : Str) (its : List It) (rest : List D) (more : List (Str × List D)) (h : (ps.filter fun p => decide (p.1 = n)) = (n, .tup (its.map itD) :: rest) :: more) (hl : ps.length < 1000) (hi : shortI its) (hl2 : its.length < 1000) :
    ∃ as', c_inputs_of [.fz (.tup (ps.map prD)), .fz (.str n)] = some (.fz (.tup (its.map fun i => .str ("@" ++ varS i))), as') ∧ as'.length = 2 :=
  ⟨_, ev_run (ρ' := [some (.fz (.tup (ps.map prD))), some (.fz (.str n))]) (ev_ret (ev_callD (ev_one (ev_frz (ev_callD (ev_cons (d := .tup (ps.map prD)) rfl (ev_one (d := .str n) rfl)) (named_ok ps n _ more h hl) rfl) rfl)) (inputs_proc_ok its (.str n) rest hi hl2) rfl)) rfl rfl rfl, rfl⟩
/-! what a procedure changes -/
inductive Sm where
  | set (xs : List (Str × D))
  | pop (t a : Str)
  | push (e : D) (a : Str)
  | oth (k : Str) (r : List D)
def smD : Sm → D
  | .set xs => .tup [.str "set", .tup (xs.map fun x => .tup [.str x.1, x.2])]
  | .pop t a => .tup [.str "pop", .str t, .str a]
  | .push e a => .tup [.str "push", e, .str a]
  | .oth k r => .tup (.str k :: r)
def smOk : Sm → Bool
  | .set xs => decide (xs.length < 100)
  | .pop _ a => decide (a.length < 1000)
  | .push _ a => decide (a.length < 1000)
  | .oth k _ => !decide (k = "set") && !decide (k = "pop") && !decide (k = "push") && !decide (k = "call")
def asg : Sm → List Str
  | .set xs => xs.map (·.1)
  | .pop t a => [t, "#" ++ a]
  | .push _ a => ["#" ++ a]
  | .oth _ _ => []
abbrev asgB : MS := (sIf (bOf (mOp2 dEqD (mOp2 dIx (mVar 2) (mC (D.int 0))) (mC (D.str (Str.ofString "set")))))
                (sExtend 1
                  (mFrz
                    (oComp (iSeq (mOp2 dIx (mVar 2) (mC (D.int 1))))
                      [3, 4]
                      (gTupD 2 (gsCons (gSet 3) (gsCons (gSet 4) gsNil))) bYes (mVar 3))))
                (sIf (bOf (mOp2 dEqD (mOp2 dIx (mVar 2) (mC (D.int 0))) (mC (D.str (Str.ofString "pop")))))
                  (sExtend 1
                    (mFrz
                      (oLst
                        (dsCons (mOp2 dIx (mVar 2) (mC (D.int 1)))
                          (dsCons (mOp2 dAddG (mC (D.str (Str.ofString "#"))) (mOp2 dIx (mVar 2) (mC (D.int 2))))
                            dsNil)))))
                  (sIf (bOf (mOp2 dEqD (mOp2 dIx (mVar 2) (mC (D.int 0))) (mC (D.str (Str.ofString "push")))))
                    (sAppend 1 (oFz (mOp2 dAddG (mC (D.str (Str.ofString "#"))) (mOp2 dIx (mVar 2) (mC (D.int 2))))))
                    (sIf (bOf (mOp2 dEqD (mOp2 dIx (mVar 2) (mC (D.int 0))) (mC (D.str (Str.ofString "call")))))
                      (sExtend 1 (mOp2 dIx (mVar 2) (mC (D.int 3)))) sSkip))))
theorem size1000 : (1000 : Nat) < sizeLine := by decide
theorem headEq {s0 s1 s3 s4 : Option O} {k c : Str} {r : List D} {b : Bool} (h : decide (k = c) = b) : bOf (mOp2 dEqD (mOp2 dIx (mVar 2) (mC (D.int 0))) (mC (D.str c))) [s0, s1, some (.fz (.tup (.str k :: r))), s3, s4] = some (b, [s0, s1, some (.fz (.tup (.str k :: r))), s3, s4]) := by
  rw [← h]
  exact ev_b (ev_op (x := .str k) (y := .str c) (ev_op rfl rfl ix0) rfl rfl)
theorem asg_step (s0 : Option O) (ss : List Str) (m : Sm) (hm : smOk m = true) (hl : ss.length < 500) :
    asgB [s0, some (.lst ((ss.map D.str).map .fz)), some (.fz (smD m)), none, none] = some (.nx, [s0, some (.lst (((ss ++ asg m).map D.str).map .fz)), some (.fz (smD m)), none, none]) := by
  have hz := size1000
  cases m with
  | set xs =>
    simp only [smOk, decide_eq_true_eq] at hm
    refine ev_if (k := true) (headEq (by decide)) ?_
    have hc := comp_all (gi := iSeq (mOp2 dIx (mVar 2) (mC (D.int 1)))) (vs := [3, 4]) (b := gTupD 2 (gsCons (gSet 3) (gsCons (gSet 4) gsNil))) (g := mVar 3) (ρ := [s0, some (.lst ((ss.map D.str).map .fz)), some (.fz (smD (.set xs))), none, none]) (fun x : Str × D => .tup [.str x.1, x.2]) (fun x => .str x.1) xs rfl rfl (by omega)
      (fun x hx => ⟨[s0, some (.lst ((ss.map D.str).map .fz)), some (.fz (smD (.set xs))), some (.fz (.str x.1)), some (.fz x.2)], _, rfl, rfl, rfl⟩) rfl
    refine ev_extend2 rfl (ev_frz hc (frz_lst _)) rfl rfl ?_ ?_
    · simp
      omega
    · simp [asg, smD, Function.comp]
  | pop t a =>
    simp only [smOk, decide_eq_true_eq] at hm
    refine ev_if (k := false) (headEq (by decide)) ?_
    refine ev_if (k := true) (headEq (by decide)) ?_
    have e1 : oLst (dsCons (mOp2 dIx (mVar 2) (mC (D.int 1))) (dsCons (mOp2 dAddG (mC (D.str (Str.ofString "#"))) (mOp2 dIx (mVar 2) (mC (D.int 2)))) dsNil)) [s0, some (.lst ((ss.map D.str).map .fz)), some (.fz (smD (.pop t a))), none, none] = some (.lst ([.str t, .str ("#" ++ a)].map .fz), [s0, some (.lst ((ss.map D.str).map .fz)), some (.fz (smD (.pop t a))), none, none]) :=
      ev_lst (ds := [.str t, .str ("#" ++ a)]) (ev_cons (d := .str t) rfl (ev_one (ev_op (y := .str a) rfl rfl (addH hm)))) two_le
    refine ev_extend2 rfl (ev_frz e1 (frz_lst _)) rfl rfl ?_ ?_
    · simp
      omega
    · simp [asg, smD]
  | push e a =>
    simp only [smOk, decide_eq_true_eq] at hm
    refine ev_if (k := false) (headEq (by decide)) ?_
    refine ev_if (k := false) (headEq (by decide)) ?_
    refine ev_if (k := true) (headEq (by decide)) ?_
    refine ev_append2 (ρ1 := [s0, some (.lst ((ss.map D.str).map .fz)), some (.fz (smD (.push e a))), none, none]) rfl (ev_fz (ev_op (y := .str a) (d := .str ("#" ++ a)) rfl rfl (addH hm))) rfl ?_ ?_
    · simp
      omega
    · simp [asg, smD]
  | oth k r =>
    simp only [smOk, Bool.and_eq_true, Bool.not_eq_true'] at hm
    obtain ⟨⟨⟨h1, h2⟩, h3⟩, h4⟩ := hm
    refine ev_if (k := false) (headEq h1) ?_
    refine ev_if (k := false) (headEq h2) ?_
    refine ev_if (k := false) (headEq h3) ?_
    refine ev_if (k := false) (headEq h4) ?_
    simp [asg, smD, sSkip]
theorem asg_loop (s0 : Option O) : ∀ (ms : List Sm) (ss : List Str) (s2 : Option O), ms.all smOk = true → ss.length + (ms.flatMap asg).length < 500 → ∃ s2',
    forLoop (gSet 2) asgB (ms.map smD) [s0, some (.lst ((ss.map D.str).map .fz)), s2, none, none] = some (.nx, [s0, some (.lst (((ss ++ ms.flatMap asg).map D.str).map .fz)), s2', none, none])
  | [], ss, s2, _, _ => ⟨s2, by simp [forLoop]⟩
  | m :: ms, ss, s2, h, hl => by
    simp only [List.all_cons, Bool.and_eq_true] at h
    simp only [List.flatMap_cons, List.length_append] at hl
    have e1 := asg_step s0 ss m h.1 (by omega)
    obtain ⟨s2', e2⟩ := asg_loop s0 ms (ss ++ asg m) (some (.fz (smD m))) h.2 (by rw [List.length_append]; omega)
    refine ⟨s2', ev_for1 rfl e1 ?_⟩
    rw [e2]
    simp
theorem assigned_ok (pr body : D) (ms : List Sm) (as0 : Rho) (hb : dIx pr (.int 8) = some body) (hs : c_statements_in [.fz body] = some (.lst ((ms.map smD).map .fz), as0)) (hs2 : as0.length = 1) (hm : ms.all smOk = true) (hl : (ms.flatMap asg).length < 500) :
    ∃ as', c_assigned_in [.fz pr] = some (.lst (((ms.flatMap asg).map D.str).map .fz), as') ∧ as'.length = 1 := by
  obtain ⟨s2, e⟩ := asg_loop (some (.fz pr)) ms [] none hm (by simpa using hl)
  refine ⟨_, ev_run (ρ' := [some (.fz pr), none, s2, none, none]) ?_ rfl rfl rfl, rfl⟩
  unfold der_assigned_in
  dsimp only
  refine seq_nx (ev_asg2 (o := .lst []) rfl rfl rfl) ?_
  refine seq_nx (ev_for (ev_seqL (ev_frz (ev_callD (ev_one (ev_op rfl rfl hb)) hs hs2) (frz_lst _))) e) ?_
  simp only [List.nil_append]
  rfl
abbrev pasB : MS := (sIf (bOf (mOp2 dEqD (mOp2 dIx (mVar 4) (mC (D.int 0))) (mC (D.str (Str.ofString "call")))))
                (sSeq
                  (sAsg 5
                    (oFz
                      (mOp2 dIx
                        (mFrz (oCallD c_proc_named (dsCons (mVar 0) (dsCons (mOp2 dIx (mVar 4) (mC (D.int 1))) dsNil))))
                        (mC (D.int 1)))))
                  (sFor (PI.iZip (mVar 5) (mOp2 dIx (mVar 4) (mC (D.int 2))))
                    (gTupD 2 (gsCons (gSet 6) (gsCons (gSet 7) gsNil)))
                    (sIf
                      (bAnd (bOf (mOp2 dEqD (mOp2 dIx (mVar 6) (mC (D.int 0))) (mC (D.str (Str.ofString "array")))))
                        (bOf
                          (mOp2 dIn (mOp2 dAddG (mC (D.str (Str.ofString "#"))) (mOp2 dIx (mVar 6) (mC (D.int 1))))
                            (mOp2 dIx (mVar 1) (mOp2 dIx (mVar 4) (mC (D.int 1)))))))
                      (sAppend 3 (oFz (mOp2 dAddG (mC (D.str (Str.ofString "#"))) (mOp2 dIx (mVar 7) (mC (D.int 1))))))
                      sSkip)))
                sSkip)
theorem smHead (m : Sm) (hm : smOk m = true) : ∃ k r, smD m = .tup (.str k :: r) ∧ decide (k = Str.ofString "call") = false := by
  cases m with
  | set xs => exact ⟨_, _, rfl, by decide⟩
  | pop t a => exact ⟨_, _, rfl, by decide⟩
  | push e a => exact ⟨_, _, rfl, by decide⟩
  | oth k r =>
    simp only [smOk, Bool.and_eq_true, Bool.not_eq_true'] at hm
    exact ⟨_, _, rfl, hm.2⟩
theorem pas_loop (s0 s1 s2 : Option O) : ∀ (ms : List Sm) (s4 : Option O), ms.all smOk = true → ∃ s4', forLoop (gSet 4) pasB (ms.map smD) [s0, s1, s2, some (.lst []), s4, none, none, none] = some (.nx, [s0, s1, s2, some (.lst []), s4', none, none, none])
  | [], s4, _ => ⟨s4, rfl⟩
  | m :: ms, s4, h => by
    simp only [List.all_cons, Bool.and_eq_true] at h
    obtain ⟨s4', e⟩ := pas_loop s0 s1 s2 ms (some (.fz (smD m))) h.2
    obtain ⟨k, r, e1, e2⟩ := smHead m h.1
    refine ⟨s4', ev_for1 (ρ1 := [s0, s1, s2, some (.lst []), some (.fz (smD m)), none, none, none]) rfl (ev_if (k := false) ?_ rfl) e⟩
    rw [e1, ← e2]
    exact ev_b (ev_op (x := .str k) (y := .str (Str.ofString "call")) (ev_op rfl rfl ix0) rfl rfl)
theorem passed_ok (core moving pr body : D) (ms : List Sm) (as0 : Rho) (hb : dIx pr (.int 8) = some body) (hs : c_statements_in [.fz body] = some (.lst ((ms.map smD).map .fz), as0)) (hs2 : as0.length = 1) (hm : ms.all smOk = true) :
    ∃ as', c_passed_on [.fz core, .fz moving, .fz pr] = some (.lst [], as') ∧ as'.length = 3 := by
  obtain ⟨s4, e⟩ := pas_loop (some (.fz core)) (some (.fz moving)) (some (.fz pr)) ms none hm
  refine ⟨_, ev_run (ρ' := [some (.fz core), some (.fz moving), some (.fz pr), none, s4, none, none, none]) ?_ rfl rfl rfl, rfl⟩
  unfold der_passed_on
  dsimp only
  refine seq_nx (ev_asg2 (o := .lst []) rfl rfl rfl) ?_
  exact seq_nx (ev_for (ev_seqL (ev_frz (ev_callD (ev_one (ev_op rfl rfl hb)) hs hs2) (frz_lst _))) e) rfl
/-- a procedure whose statements are known -/
structure Known (pr : D) (vs : List Str) : Prop where
  ex : ∃ (body : D) (ms : List Sm) (as0 : Rho), dIx pr (.int 8) = some body ∧ c_statements_in [.fz body] = some (.lst ((ms.map smD).map .fz), as0) ∧ as0.length = 1 ∧ ms.all smOk = true ∧ ms.flatMap asg = vs ∧ vs.length < 500
theorem Known.assigned {pr : D} {vs : List Str} (h : Known pr vs) : ∃ as', c_assigned_in [.fz pr] = some (.lst ((vs.map D.str).map .fz), as') ∧ as'.length = 1 := by
  obtain ⟨body, ms, as0, h1, h2, h3, h4, rfl, h6⟩ := h.ex
  exact assigned_ok pr body ms as0 h1 h2 h3 h4 h6
theorem Known.passed {pr : D} {vs : List Str} (h : Known pr vs) (core moving : D) : ∃ as', c_passed_on [.fz core, .fz moving, .fz pr] = some (.lst [], as') ∧ as'.length = 3 := by
  obtain ⟨body, ms, as0, h1, h2, h3, h4, rfl, h6⟩ := h.ex
  exact passed_ok core moving pr body ms as0 h1 h2 h3 h4
end Hd
set_option Elab.async false
set_option linter.all false
set_option maxRecDepth 100000
set_option maxHeartbeats 4000000
set_option autoImplicit false
/-! FM8: what a procedure changes: the table, the outcomes. -/
namespace Hd
open PySem PySem.Spec L2 PI
abbrev Kn := List ((Str × List D) × List Str)
def knD (qs : Kn) : D := .tup (qs.map fun q => prD q.1)
def movD (qs : Kn) : D := .dct (qs.map fun q => .inr q.1.1) (qs.map fun q => .lst (q.2.map D.str))
def KnOk (qs : Kn) : Prop := ∀ q ∈ qs, Known (prD q.1) q.2
theorem mov_dc (s0 : Option O) : ∀ (qs q0 : Kn), ((q0 ++ qs).map (·.1.1)).Nodup → KnOk qs →
    dcLoop [3] (gSet 3) bYes (mOp2 dIx (mVar 3) (mC (D.int 0))) (mFrz (oCallD c_assigned_in (dsCons (mVar 3) dsNil))) (qs.map fun q => prD q.1) [s0, none, none, none, none] (q0.map fun q => .inr q.1.1) (q0.map fun q => .lst (q.2.map D.str)) =
      some ((q0 ++ qs).map fun q => .inr q.1.1, (q0 ++ qs).map fun q => .lst (q.2.map D.str), [s0, none, none, none, none])
  | [], q0, _, _ => by simp [dcLoop]
  | q :: qs, q0, h, hk => by
    have ih := mov_dc s0 qs (q0 ++ [q]) (by simpa using h) (fun r hr => hk r (by simp [hr]))
    obtain ⟨as', e1, e2⟩ := (hk q (by simp)).assigned
    have hk : hasK (q0.map fun q => (.inr q.1.1 : Key)) (.inr q.1.1) = false := by
      rw [Bool.eq_false_iff]
      intro z
      obtain ⟨x, hx, e⟩ := List.mem_map.mp ((hasK_mem _ _).mp z)
      have e : x.1.1 = q.1.1 := by simpa using e
      rw [List.map_append, List.nodup_append] at h
      exact h.2.2 x.1.1 (List.mem_map_of_mem (f := fun q : (Str × List D) × List Str => q.1.1) hx) q.1.1 (by simp) e
    refine ev_dct1 (y := .str q.1.1) (x := .lst (q.2.map D.str)) (k := .inr q.1.1) (ρ1 := [s0, none, none, some (.fz (prD q.1)), none]) rfl rfl (ev_op (x := prD q.1) (y := .int 0) rfl rfl ix0) rfl (ev_frz (ev_callD (ev_one (d := prD q.1) rfl) e1 e2) (frz_lst _)) ?_
    unfold putKs putDs
    rw [hk]
    dsimp only
    have e1 : (q0.map fun q => (.inr q.1.1 : Key)) ++ [.inr q.1.1] = (q0 ++ [q]).map fun q => .inr q.1.1 := by simp
    have e2 : (q0.map fun q => D.lst (q.2.map D.str)) ++ [.lst (q.2.map D.str)] = (q0 ++ [q]).map fun q => .lst (q.2.map D.str) := by simp
    rw [e1, e2]
    have e3 : q0 ++ q :: qs = q0 ++ [q] ++ qs := by simp
    rw [e3]
    exact ih
theorem pass_for (core mv : D) (s2 s4 : Option O) (body : MS) : ∀ (qs : Kn) (s3 : Option O), KnOk qs → ∃ s3',
    forLoop (gSet 3) (sFor (iSeq (mFrz (oCallD c_passed_on (dsCons (mVar 0) (dsCons (mVar 1) (dsCons (mVar 3) dsNil)))))) (gSet 4) body) (qs.map fun q => prD q.1) [some (.fz core), some (.fz mv), s2, s3, s4] =
      some (.nx, [some (.fz core), some (.fz mv), s2, s3', s4])
  | [], s3, _ => ⟨s3, rfl⟩
  | q :: qs, s3, h => by
    obtain ⟨s3', e⟩ := pass_for core mv s2 s4 body qs (some (.fz (prD q.1))) (fun r hr => h r (by simp [hr]))
    obtain ⟨as', e1, e2⟩ := (h q (by simp)).passed core mv
    exact ⟨s3', ev_for1 (ρ1 := [some (.fz core), some (.fz mv), s2, some (.fz (prD q.1)), s4]) rfl (ev_for (ev_seqL (ev_frz (ev_callD (ds := [core, mv, prD q.1]) (ev_cons rfl (ev_cons rfl (ev_one rfl))) e1 e2) rfl)) rfl) e⟩
theorem moving_ok (qs : Kn) (hn : (qs.map (·.1.1)).Nodup) (hk : KnOk qs) (hl : qs.length < 1000) : ∃ as', c_moving_table [.fz (knD qs)] = some (.fz (movD qs), as') ∧ as'.length = 1 := by
  have h1 := mov_dc (some (.fz (knD qs))) qs [] (by simpa using hn) hk
  simp only [List.nil_append, List.map_nil] at h1
  have h2 := ev_dc (gi := iSeq (mVar 0)) (vs := [3]) (ρ := [some (.fz (knD qs)), none, none, none, none]) (ρ1 := [some (.fz (knD qs)), none, none, none, none]) (ds := qs.map fun q => prD q.1) rfl (by
    show (true && decide ((qs.map fun q => prD q.1).length ≤ sizeLine)) = true
    rw [Bool.true_and]
    exact decide_eq_true (small (by simpa using hl))) h1
  have hz : (O.dct (qs.map fun q => .inr q.1.1) ((qs.map fun q => D.lst (q.2.map D.str)).map .fz)).frz = movD qs := by simp only [O.frz, frzs_fz]; rfl
  obtain ⟨s3, e3⟩ := pass_for (knD qs) (movD qs) (some (.fz (.bl false))) none
    (sIf (bOf (mOp2 dNotIn (mVar 4) (mOp2 dIx (mVar 1) (mOp2 dIx (mVar 3) (mC (D.int 0))))))
                        (sSeq (fun x => none) (sAsg 2 (oFz (mC (D.bl true))))) sSkip) qs none hk
  refine ⟨_, ev_run (ρ' := [some (.fz (knD qs)), some (.fz (movD qs)), some (.fz (.bl false)), s3, none]) ?_ rfl rfl rfl, rfl⟩
  unfold der_moving_table
  dsimp only
  refine seq_nx (ev_asg2 (ev_fz (ev_frz h2 hz)) rfl rfl) ?_
  refine seq_nx (ev_asg2 (o := .fz (.bl true)) rfl rfl rfl) ?_
  refine seq_nx (ev_while1 (n := 999999) (tru_k (d := .bl true) rfl rfl) (seq_nx (ev_asg2 (o := .fz (.bl false)) rfl rfl rfl) (ev_for (ds := qs.map fun q => prD q.1) rfl e3)) (ev_while0 (n := 999998) (tru_k (d := .bl false) rfl rfl))) ?_
  rfl
theorem inV_str (s : Str) : ∀ vs : List Str, inV (.str s) (vs.map .str) = decide (s ∈ vs)
  | [] => by simp [inV]
  | v :: vs => by
    have ih := inV_str s vs
    unfold inV at ih ⊢
    simp only [List.map_cons, List.any_cons, ih]
    show ((v == s) || _) = _
    by_cases h : v = s
    · simp [h]
    · have h2 : s ≠ v := fun z => h z.symm
      simp [h, h2]
theorem fvs_str : ∀ vs : List Str, fvs (vs.map D.str) = some (vs.map .str)
  | [] => rfl
  | v :: vs => by simp [fvs, D.fv, fvs_str vs]
theorem in_lst (s : Str) (vs : List Str) : dIn (.str s) (.lst (vs.map .str)) = some (.bl (decide (s ∈ vs))) := by
  unfold dIn dInB
  simp only [D.fv, fvs_str, inV_str]
theorem in_tup (s : Str) (vs : List Str) : dIn (.str s) (.tup (vs.map .str)) = some (.bl (decide (s ∈ vs))) := by
  unfold dIn dInB
  simp only [D.fv, fvs_str, inV_str]
/-- a filter -/
theorem comp_filter {α : Type} {vs : List Nat} {b : MG} {t : MB} {g : MD} {ρ : Rho} (A : α → D) (p : α → Bool) (F : α → D) : ∀ (xs : List α), (∀ x ∈ xs, ∃ ρ1 ρ3, b (A x) (wipeR ρ vs) = some ρ1 ∧ t ρ1 = some (p x, ρ1) ∧ (p x = true → g ρ1 = some (F x, ρ3)) ∧ wipeR ρ1 vs = wipeR ρ vs ∧ wipeR ρ3 vs = wipeR ρ vs) →
    compLoop vs b t g (xs.map A) (wipeR ρ vs) = some ((xs.filter p).map F, wipeR ρ vs)
  | [], _ => rfl
  | x :: xs, h => by
    have ih := comp_filter A p F xs fun y hy => h y (by simp [hy])
    obtain ⟨ρ1, ρ3, e1, e2, e3, e4, e5⟩ := h x (by simp)
    cases hp : p x with
    | true =>
      rw [hp] at e2
      rw [List.filter_cons_of_pos hp]
      exact ev_comp1 e1 e2 (e3 hp) (by rw [e5]; exact ih)
    | false =>
      rw [hp] at e2
      rw [List.filter_cons_of_neg (by simp [hp])]
      exact ev_comp0 e1 e2 (by rw [e4]; exact ih)
theorem comp_sel {α : Type} {gi : MI} {vs : List Nat} {b : MG} {t : MB} {g : MD} {ρ ρ1 : Rho} (A : α → D) (p : α → Bool) (F : α → D) (xs : List α) (e : gi ρ = some (xs.map A, ρ1)) (hz : fzAt ρ1 vs = true) (hl : xs.length < 1000)
    (h : ∀ x ∈ xs, ∃ ρ2 ρ3, b (A x) (wipeR ρ1 vs) = some ρ2 ∧ t ρ2 = some (p x, ρ2) ∧ (p x = true → g ρ2 = some (F x, ρ3)) ∧ wipeR ρ2 vs = wipeR ρ1 vs ∧ wipeR ρ3 vs = wipeR ρ1 vs) (hr : restR ρ1 vs (wipeR ρ1 vs) = ρ1) : oComp gi vs b t g ρ = some (.lst (((xs.filter p).map F).map .fz), ρ1) := by
  have := ev_comp (vs := vs) (t := t) (g := g) (b := b) e (by rw [hz, Bool.true_and]; exact decide_eq_true (small (by simpa using hl))) (comp_filter A p F xs h)
  rw [hr] at this
  exact this
theorem items_ok (its : List It) (p0 : Str) (rest : List D) (mv : D) (vs : List Str) (hm : dIx mv (.str p0) = some (.lst (vs.map .str))) (h : shortI its) (hl : its.length < 1000) :
    ∃ as', c_moving_items [.fz (prD (p0, .tup (its.map itD) :: rest)), .fz mv] = some (.lst (((its.filter fun i => decide (varS i ∈ vs)).map itD).map .fz), as') ∧ as'.length = 2 := by
  let P := prD (p0, .tup (its.map itD) :: rest)
  have hc := comp_sel (gi := iSeq (mOp2 dIx (mVar 0) (mC (D.int 1)))) (vs := [2]) (b := gSet 2) (t := bOf (mOp2 dIn (mFrz (oCallD c_variable_of (dsCons (mVar 2) dsNil))) (mOp2 dIx (mVar 1) (mOp2 dIx (mVar 0) (mC (D.int 0)))))) (g := mVar 2)
    (ρ := [some (.fz P), some (.fz mv), none]) (ρ1 := [some (.fz P), some (.fz mv), none]) itD (fun i => decide (varS i ∈ vs)) itD its (ev_seqT (ev_op (x := P) rfl rfl ix1)) rfl hl (fun i hi =>
      ⟨[some (.fz P), some (.fz mv), some (.fz (itD i))], [some (.fz P), some (.fz mv), some (.fz (itD i))], rfl, ev_b (ev_op (ev_frz (ev_callD (ev_one (d := itD i) rfl) (var_ok i (h i hi)) rfl) rfl) (ev_op (x := mv) (y := .str p0) rfl (ev_op (x := P) rfl rfl ix0) hm) (in_lst _ _)), fun _ => rfl, rfl, rfl⟩) rfl
  exact ⟨_, ev_run (ρ' := [some (.fz P), some (.fz mv), none]) (ev_ret hc) rfl rfl rfl, rfl⟩
def outS (its : List It) (vs : List Str) : List Str := ((its.filter fun i => decide (varS i ∈ vs)).filter fun i => i.1).map varS
theorem outproc_ok (its : List It) (p0 : Str) (rs : List Str) (rest : List D) (mv : D) (vs : List Str) (hm : dIx mv (.str p0) = some (.lst (vs.map .str))) (h : shortI its) (hl : its.length < 500) (hrs : rs.length < 500) :
    ∃ as', c_outcomes_of_proc [.fz (prD (p0, .tup (its.map itD) :: .tup (rs.map .str) :: rest)), .fz mv] = some (.fz (.tup ((rs ++ outS its vs).map .str)), as') ∧ as'.length = 2 := by
  let P := prD (p0, .tup (its.map itD) :: .tup (rs.map .str) :: rest)
  obtain ⟨as1, e1, l1⟩ := items_ok its p0 (.tup (rs.map .str) :: rest) mv vs hm h (by omega)
  have hfl : (its.filter fun i => decide (varS i ∈ vs)).length ≤ its.length := List.length_filter_le _ _
  have hc := comp_sel (gi := iSeq (mFrz (oCallD c_moving_items (dsCons (mVar 0) (dsCons (mVar 1) dsNil))))) (vs := [3]) (b := gSet 3) (t := bOf (mOp2 dEqD (mOp2 dIx (mVar 3) (mC (D.int 0))) (mC (D.str (Str.ofString "array"))))) (g := mFrz (oCallD c_variable_of (dsCons (mVar 3) dsNil)))
    (ρ := [some (.fz P), some (.fz mv), none, none]) (ρ1 := [some (.fz P), some (.fz mv), none, none]) itD (fun i => i.1) (fun i => .str (varS i)) (its.filter fun i => decide (varS i ∈ vs))
    (ev_seqL (ev_frz (ev_callD (ds := [P, mv]) (ev_cons rfl (ev_one rfl)) e1 l1) (frz_lst _))) rfl (by omega) (fun i hi =>
      ⟨[some (.fz P), some (.fz mv), none, some (.fz (itD i))], [some (.fz P), some (.fz mv), none, some (.fz (itD i))], rfl, ev_b (ev_op (x := .str (kindS i.1)) (ev_op (x := itD i) rfl rfl ix0) rfl (by
        obtain ⟨k, s⟩ := i
        cases k <;> rfl)), fun _ => ev_frz (ev_callD (ev_one (d := itD i) rfl) (var_ok i (h i (List.mem_filter.mp hi).1)) rfl) rfl, rfl, rfl⟩) rfl
  have hmm : ((its.filter fun i => decide (varS i ∈ vs)).filter fun i => i.1).map (fun i => D.str (varS i)) = (outS its vs).map .str := by simp [outS, Function.comp]
  rw [hmm] at hc
  have hol : (outS its vs).length ≤ its.length := by
    unfold outS
    rw [List.length_map]
    exact Nat.le_trans (List.length_filter_le _ _) hfl
  refine ⟨_, ev_run (ρ' := [some (.fz P), some (.fz mv), some (.fz (.lst ((outS its vs).map .str))), none]) ?_ rfl rfl rfl, rfl⟩
  unfold der_outcomes_of_proc
  dsimp only
  refine seq_nx (ev_asg2 (ev_fz (ev_frz hc (frz_lst _))) rfl rfl) ?_
  refine ev_ret (ev_fz (ev_op (x := .tup (rs.map .str)) (y := .tup ((outS its vs).map .str)) (ev_op (x := P) rfl rfl (ix_nat (n := 2) rfl)) (ev_fn (ev_one rfl) rfl) ?_))
  rw [add_tup (by simp; omega), List.map_append]
theorem look_mov : ∀ (qs : Kn) (q : (Str × List D) × List Str), (qs.map (·.1.1)).Nodup → q ∈ qs → lookD (qs.map fun q => (.inr q.1.1 : Key)) (qs.map fun q => D.lst (q.2.map D.str)) (.inr q.1.1) = some (.lst (q.2.map D.str))
  | [], q, _, h => by simp at h
  | r :: qs, q, hn, h => by
    simp only [List.map_cons, lookD]
    simp only [List.map_cons, List.nodup_cons] at hn
    rcases List.mem_cons.mp h with rfl | h
    · rw [if_pos rfl]
    · rw [if_neg (fun z => hn.1 (by
        have z : r.1.1 = q.1.1 := by simpa using z
        rw [z]
        exact List.mem_map_of_mem (f := fun q : (Str × List D) × List Str => q.1.1) h)), look_mov qs q hn.2 h]
theorem filter_one : ∀ (ps : List (Str × List D)) (p : Str × List D), (ps.map (·.1)).Nodup → p ∈ ps → (ps.filter fun q => decide (q.1 = p.1)) = [p]
  | [], p, _, h => by simp at h
  | q :: ps, p, hn, h => by
    simp only [List.map_cons, List.nodup_cons] at hn
    rcases List.mem_cons.mp h with rfl | h
    · have : (ps.filter fun q => decide (q.1 = p.1)) = [] := by
        rw [List.filter_eq_nil_iff]
        intro r hr
        simp only [decide_eq_true_eq]
        intro z
        exact hn.1 (by rw [← z]; exact List.mem_map_of_mem hr)
      simp [this]
    · have hq : ¬(q.1 = p.1) := fun z => hn.1 (by rw [z]; exact List.mem_map_of_mem h)
      rw [List.filter_cons_of_neg (by simpa using hq), filter_one ps p hn.2 h]
theorem kn_map (qs : Kn) : knD qs = .tup ((qs.map (·.1)).map prD) := by simp [knD]
/-- the outcomes of a procedure of a core whose statements are known -/
theorem outcomes_ok (qs : Kn) (hn : (qs.map (·.1.1)).Nodup) (hk : KnOk qs) (hl : qs.length < 1000) (n : Str) (its : List It) (rs : List Str) (rest : List D) (vs : List Str) (hq : ((n, .tup (its.map itD) :: .tup (rs.map .str) :: rest), vs) ∈ qs) (h : shortI its) (hl2 : its.length < 500) (hrs : rs.length < 500) :
    ∃ as', c_outcomes_of [.fz (knD qs), .fz (.str n)] = some (.fz (.tup ((rs ++ outS its vs).map .str)), as') ∧ as'.length = 2 := by
  obtain ⟨as1, e1, l1⟩ := moving_ok qs hn hk hl
  obtain ⟨as2, e2, l2⟩ := outproc_ok its n rs rest (movD qs) vs (look_mov qs _ hn hq) h hl2 hrs
  have hn2 : ((qs.map (·.1)).map (·.1)).Nodup := by rw [List.map_map]; exact hn
  have e3 := named_ok (qs.map (·.1)) n _ [] (filter_one _ _ hn2 (List.mem_map_of_mem (f := fun q : (Str × List D) × List Str => q.1) hq)) (by simpa using hl)
  rw [← kn_map] at e3
  exact ⟨_, ev_run (ρ' := [some (.fz (knD qs)), some (.fz (.str n))]) (ev_ret (ev_callD (ev_cons (ev_frz (ev_callD (ds := [knD qs, .str n]) (ev_cons rfl (ev_one rfl)) e3 rfl) rfl) (ev_one (ev_frz (ev_callD (ds := [knD qs]) (ev_one rfl) e1 l1) rfl))) e2 l2)) rfl rfl rfl, rfl⟩
theorem ins_ok (qs : Kn) (hn : (qs.map (·.1.1)).Nodup) (hl : qs.length < 1000) (n : Str) (its : List It) (rest : List D) (vs : List Str) (hq : ((n, .tup (its.map itD) :: rest), vs) ∈ qs) (h : shortI its) (hl2 : its.length < 1000) :
    ∃ as', c_inputs_of [.fz (knD qs), .fz (.str n)] = some (.fz (.tup (its.map fun i => .str ("@" ++ varS i))), as') ∧ as'.length = 2 := by
  have hn2 : ((qs.map (·.1)).map (·.1)).Nodup := by rw [List.map_map]; exact hn
  have := inputs_ok (qs.map (·.1)) n its rest [] (filter_one _ _ hn2 (List.mem_map_of_mem (f := fun q : (Str × List D) × List Str => q.1) hq)) (by simpa using hl) h hl2
  rw [← kn_map] at this
  exact this
theorem nam_ok (qs : Kn) (hn : (qs.map (·.1.1)).Nodup) (hl : qs.length < 1000) (p : Str × List D) (vs : List Str) (hq : (p, vs) ∈ qs) : c_proc_named [.fz (knD qs), .fz (.str p.1)] = some (.fz (prD p), [some (.fz (knD qs)), some (.fz (.str p.1))]) := by
  have hn2 : ((qs.map (·.1)).map (·.1)).Nodup := by rw [List.map_map]; exact hn
  have := named_ok (qs.map (·.1)) p.1 p [] (filter_one _ _ hn2 (List.mem_map_of_mem (f := fun q : (Str × List D) × List Str => q.1) hq)) (by simpa using hl)
  rw [← kn_map] at this
  exact this
end Hd
set_option Elab.async false
set_option linter.all false
set_option maxRecDepth 100000
set_option maxHeartbeats 4000000
set_option autoImplicit false
/-! FM9: data whose deep equality is told. -/
namespace Hd
open PySem PySem.Spec L2 PI
mutual
def okD : Nat → D → Bool
  | _, .non => true
  | _, .bl _ => true
  | _, .int _ => true
  | _, .str s => PyData.strOk s
  | n, .tup ds => (match n with | n + 1 => okDs n ds | 0 => false)
  | n, .lst ds => (match n with | n + 1 => okDs n ds | 0 => false)
  | _, _ => false
def okDs : Nat → List D → Bool
  | _, [] => true
  | n, d :: ds => okD n d && okDs n ds
end
mutual
theorem okD_py : ∀ (d : D) (n : Nat), okD n d = true → ∃ p, d.py = some p ∧ p.canLay0 = true ∧ p.depth ≤ n + 1
  | .non, n, _ => ⟨.none, rfl, rfl, by simp [PyData.depth]⟩
  | .bl _, n, _ => ⟨.bool _, rfl, rfl, by simp [PyData.depth]⟩
  | .int _, n, _ => ⟨.int _, rfl, rfl, by simp [PyData.depth]⟩
  | .str s, n, h => ⟨.str s, rfl, by simpa [okD, PyData.canLay0] using h, by simp [PyData.depth]⟩
  | .tup ds, 0, h => by simp [okD] at h
  | .tup ds, n + 1, h => by
    obtain ⟨ps, e1, e2, e3⟩ := okDs_py ds n (by simpa [okD] using h)
    exact ⟨.tuple ps, by simp [D.py, e1], by simpa [PyData.canLay0] using e2, by simp [PyData.depth]; omega⟩
  | .lst ds, 0, h => by simp [okD] at h
  | .lst ds, n + 1, h => by
    obtain ⟨ps, e1, e2, e3⟩ := okDs_py ds n (by simpa [okD] using h)
    exact ⟨.list ps, by simp [D.py, e1], by simpa [PyData.canLay0] using e2, by simp [PyData.depth]; omega⟩
  | .rol _, _, h => by simp [okD] at h
  | .dct _ _, _, h => by simp [okD] at h
  | .obj _ _ _, _, h => by simp [okD] at h
theorem okDs_py : ∀ (ds : List D) (n : Nat), okDs n ds = true → ∃ ps, D.pys ds = some ps ∧ PyData.canLayAll0 ps = true ∧ PyData.depthAll ps ≤ n + 1
  | [], n, _ => ⟨[], rfl, rfl, by simp [PyData.depthAll]⟩
  | d :: ds, n, h => by
    simp only [okDs, Bool.and_eq_true] at h
    obtain ⟨p, a1, a2, a3⟩ := okD_py d n h.1
    obtain ⟨ps, b1, b2, b3⟩ := okDs_py ds n h.2
    exact ⟨p :: ps, by simp [D.pys, a1, b1], by simp [PyData.canLayAll0, a2, b2], by simp [PyData.depthAll]; omega⟩
end
theorem ne_refl {xs : List D} {n : Nat} (h : okD n (.tup xs) = true) (hn : n ≤ 63) : dNeD (.tup xs) (.tup xs) = some (.bl false) := by
  obtain ⟨p, e1, e2, e3⟩ := okD_py _ n h
  have es : SeqAt.shaped p = true := by
    unfold SeqAt.shaped
    rw [e2, Bool.true_and]
    exact decide_eq_true (by omega)
  have e4 : dEq (.tup xs) (.tup xs) = some true := by
    show (match (D.tup xs).py, (D.tup xs).py with
      | some p, some q => (match SeqAt.shaped p && SeqAt.shaped q with
        | true => some (PyData.eqv p q)
        | false => none)
      | _, _ => none) = some true
    rw [e1]
    dsimp only
    rw [es]
    show some (PyData.eqv p p) = some true
    rw [SeqAt.eqv_refl p e2]
  unfold dNeD
  rw [e4]
  rfl

end Hd
set_option Elab.async false
set_option linter.all false
set_option maxRecDepth 100000
set_option maxHeartbeats 4000000
set_option autoImplicit false
namespace Hd
open PySem PySem.Spec L2 PI
def lettersS : Str := "abcdefghijklmnopqrstuvwxyz"
def shU : Nat → Str
  | 0 => ""
  | 1 => "q"
  | 2 => "qx"
  | _ => "qxz"
def lowS (s : Str) : Bool := s.cps.toList.all (fun c => decide (97 ≤ c ∧ c ≤ 122)) && !s.cps.toList.isEmpty
def namesOk (ns : List Str) : Bool := decide ns.Nodup && ns.all PyData.strOk && ns.all lowS && ns.all fun s => decide (s.length ≤ 8)
def chS (n : Nat) : Str := ⟨#[lettersS.cps.getD n 0]⟩
def fW (m : Nat) (f : Bool) (i j u : Nat) : List Str := (List.range m).map fun k => let c := chS ((i + k * (1 + 2 * j)) % 26)
  match f with
  | true => shU u ++ c
  | false => c ++ shU u
abbrev compA : MO := oComp (iRange1 (mVar 1)) (List.map (fun x => x.snd) [(Str.ofString "k", 6)]) (gSet 6) bYes (mOp2 dAddG (mVar 5) (mOp2 dIx (mVar 2) (mOp2 dMod (mFn fInt (dsCons (mOp2 dAddG (mVar 3) (mOp2 dMulG (mVar 6) (mVar 4))) dsNil)) (mC (D.int 26)))))
abbrev compB : MO := oComp (iRange1 (mVar 1)) (List.map (fun x => x.snd) [(Str.ofString "k", 6)]) (gSet 6) bYes (mOp2 dAddG (mOp2 dIx (mVar 2) (mOp2 dMod (mFn fInt (dsCons (mOp2 dAddG (mVar 3) (mOp2 dMulG (mVar 6) (mVar 4))) dsNil)) (mC (D.int 26)))) (mVar 5))
def rW (m : Nat) (st : O) (i j u : Nat) : Rho := [some st, some (.fz (.int (m : Int))), some (.fz (.str lettersS)), some (.fz (.int (i : Int))), some (.fz (.int (1 + 2 * (j : Int)))), some (.fz (.str (shU u))), none]
theorem tab {α : Type} {F G : Nat → α} {n : Nat} (h : (List.range n).map F = (List.range n).map G) (i : Nat) (hi : i < n) : F i = G i := by
  have := congrArg (fun l => l[i]?) h
  simp [List.getElem?_range hi] at this
  exact this
theorem tabA4 (st : O) : (List.range 26).map (fun i => (List.range 6).map fun j => (List.range 4).map fun u => compA (rW 4 st i j u)) = (List.range 26).map (fun i => (List.range 6).map fun j => (List.range 4).map fun u => some (O.lst ((fW 4 true i j u).map fun s => .fz (.str s)), rW 4 st i j u)) := by kernel_rfl
theorem tabB4 (st : O) : (List.range 26).map (fun i => (List.range 6).map fun j => (List.range 4).map fun u => compB (rW 4 st i j u)) = (List.range 26).map (fun i => (List.range 6).map fun j => (List.range 4).map fun u => some (O.lst ((fW 4 false i j u).map fun s => .fz (.str s)), rW 4 st i j u)) := by kernel_rfl
theorem tabS4 : (List.range 26).all (fun i => (List.range 6).all fun j => (List.range 4).all fun u => namesOk (fW 4 true i j u) && namesOk (fW 4 false i j u)) = true := by decide +kernel
theorem tabA6 (st : O) : (List.range 26).map (fun i => (List.range 6).map fun j => (List.range 4).map fun u => compA (rW 6 st i j u)) = (List.range 26).map (fun i => (List.range 6).map fun j => (List.range 4).map fun u => some (O.lst ((fW 6 true i j u).map fun s => .fz (.str s)), rW 6 st i j u)) := by kernel_rfl
theorem tabB6 (st : O) : (List.range 26).map (fun i => (List.range 6).map fun j => (List.range 4).map fun u => compB (rW 6 st i j u)) = (List.range 26).map (fun i => (List.range 6).map fun j => (List.range 4).map fun u => some (O.lst ((fW 6 false i j u).map fun s => .fz (.str s)), rW 6 st i j u)) := by kernel_rfl
theorem tabS6 : (List.range 26).all (fun i => (List.range 6).all fun j => (List.range 4).all fun u => namesOk (fW 6 true i j u) && namesOk (fW 6 false i j u)) = true := by decide +kernel
theorem slice_k {g : MD} {l h : Rho → Option (Option Int × Rho)} {ρ ρ1 ρ2 ρ3 : Rho} {x d : D} {lo hi : Option Int} (e : g ρ = some (x, ρ1)) (el : l ρ1 = some (lo, ρ2)) (eh : h ρ2 = some (hi, ρ3)) (ed : dSlice x lo hi = some d) : mSlice g l h ρ = some (d, ρ3) := by
  unfold mSlice
  rw [e]
  dsimp only
  rw [el]
  dsimp only
  rw [eh]
  dsimp only
  rw [ed]
theorem psome_k {g : MD} {ρ ρ1 : Rho} {i : Int} (e : g ρ = some (.int i, ρ1)) : pSome g ρ = some (some i, ρ1) := by
  unfold pSome
  rw [e]
theorem words4 (ds : List Int) (a b c : Int) : ∃ (a' b' c' : Int) (ns : List Str), ns.length = 4 ∧ namesOk ns = true ∧ c_u_law_words [stO ds a b c, .fz (.int 4)] = some (.lst (ns.map fun s => .fz (.str s)), [some (stO ds a' b' c'), some (.fz (.int 4))]) := by
  obtain ⟨v1, a1, b1, c1, l1, u1, e1⟩ := draw_ok ds a b c 26 (by decide) (by decide)
  obtain ⟨v2, a2, b2, c2, l2, u2, e2⟩ := draw_ok ds a1 b1 c1 6 (by decide) (by decide)
  obtain ⟨v3, a3, b3, c3, l3, u3, e3⟩ := draw_ok ds a2 b2 c2 4 (by decide) (by decide)
  obtain ⟨v4, a4, b4, c4, l4, u4, e4⟩ := draw_ok ds a3 b3 c3 2 (by decide) (by decide)
  obtain ⟨i, rfl⟩ : ∃ i : Nat, v1 = (i : Int) := ⟨v1.toNat, by omega⟩
  obtain ⟨j, rfl⟩ : ∃ i : Nat, v2 = (i : Int) := ⟨v2.toNat, by omega⟩
  obtain ⟨u, rfl⟩ : ∃ i : Nat, v3 = (i : Int) := ⟨v3.toNat, by omega⟩
  have hi : i < 26 := by omega
  have hj : j < 6 := by omega
  have hu : u < 4 := by omega
  obtain ⟨k4, hk4⟩ : ∃ k, decide (v4 = 0) = k := ⟨_, rfl⟩
  have hsl : dSlice (.str "qxz") none (some (u : Int)) = some (.str (shU u)) := by
    match u, hu with
    | 0, _ => kernel_rfl
    | 1, _ => kernel_rfl
    | 2, _ => kernel_rfl
    | 3, _ => kernel_rfl
  have tA := tab (tab (tab (tabA4 (stO ds a4 b4 c4)) i hi) j hj) u hu
  have tB := tab (tab (tab (tabB4 (stO ds a4 b4 c4)) i hi) j hj) u hu
  have tS := List.all_eq_true.mp (List.all_eq_true.mp (List.all_eq_true.mp tabS4 i (List.mem_range.mpr hi)) j (List.mem_range.mpr hj)) u (List.mem_range.mpr hu)
  obtain ⟨tS1, tS2⟩ := Bool.and_eq_true_iff.mp tS
  refine ⟨a4, b4, c4, fW 4 k4 i j u, by simp [fW], by cases k4 <;> assumption, ?_⟩
  refine run_rt (ρ' := rW 4 (stO ds a4 b4 c4) i j u) ?_
  unfold der_u_law_words
  dsimp only
  refine seq_nx (ρ1 := [some (stO ds a b c), some (.fz (.int 4)), some (.fz (.str lettersS)), none, none, none, none]) (by kernel_rfl) ?_
  refine seq_nx (asg_k (fz_k (dw e1))) ?_
  refine seq_nx (asg_k (fz_k (op_k rfl (op_k rfl (dw e2) (mul_k (by omega))) rfl))) ?_
  refine seq_nx (asg_k (fz_k (slice_k rfl rfl (psome_k (dw e3)) hsl))) ?_
  cases k4 with
  | true => exact seq_rt (if_t (b_k (op_k (dw e4) rfl (d := .bl true) (by rw [← hk4]; rfl))) rfl (ret_k tA))
  | false => exact seq_nx (if_f (b_k (op_k (dw e4) rfl (d := .bl false) (by rw [← hk4]; rfl))) rfl rfl) (ret_k tB)
theorem words6 (ds : List Int) (a b c : Int) : ∃ (a' b' c' : Int) (ns : List Str), ns.length = 6 ∧ namesOk ns = true ∧ c_u_law_words [stO ds a b c, .fz (.int 6)] = some (.lst (ns.map fun s => .fz (.str s)), [some (stO ds a' b' c'), some (.fz (.int 6))]) := by
  obtain ⟨v1, a1, b1, c1, l1, u1, e1⟩ := draw_ok ds a b c 26 (by decide) (by decide)
  obtain ⟨v2, a2, b2, c2, l2, u2, e2⟩ := draw_ok ds a1 b1 c1 6 (by decide) (by decide)
  obtain ⟨v3, a3, b3, c3, l3, u3, e3⟩ := draw_ok ds a2 b2 c2 4 (by decide) (by decide)
  obtain ⟨v4, a4, b4, c4, l4, u4, e4⟩ := draw_ok ds a3 b3 c3 2 (by decide) (by decide)
  obtain ⟨i, rfl⟩ : ∃ i : Nat, v1 = (i : Int) := ⟨v1.toNat, by omega⟩
  obtain ⟨j, rfl⟩ : ∃ i : Nat, v2 = (i : Int) := ⟨v2.toNat, by omega⟩
  obtain ⟨u, rfl⟩ : ∃ i : Nat, v3 = (i : Int) := ⟨v3.toNat, by omega⟩
  have hi : i < 26 := by omega
  have hj : j < 6 := by omega
  have hu : u < 4 := by omega
  obtain ⟨k4, hk4⟩ : ∃ k, decide (v4 = 0) = k := ⟨_, rfl⟩
  have hsl : dSlice (.str "qxz") none (some (u : Int)) = some (.str (shU u)) := by
    match u, hu with
    | 0, _ => kernel_rfl
    | 1, _ => kernel_rfl
    | 2, _ => kernel_rfl
    | 3, _ => kernel_rfl
  have tA := tab (tab (tab (tabA6 (stO ds a4 b4 c4)) i hi) j hj) u hu
  have tB := tab (tab (tab (tabB6 (stO ds a4 b4 c4)) i hi) j hj) u hu
  have tS := List.all_eq_true.mp (List.all_eq_true.mp (List.all_eq_true.mp tabS6 i (List.mem_range.mpr hi)) j (List.mem_range.mpr hj)) u (List.mem_range.mpr hu)
  obtain ⟨tS1, tS2⟩ := Bool.and_eq_true_iff.mp tS
  refine ⟨a4, b4, c4, fW 6 k4 i j u, by simp [fW], by cases k4 <;> assumption, ?_⟩
  refine run_rt (ρ' := rW 6 (stO ds a4 b4 c4) i j u) ?_
  unfold der_u_law_words
  dsimp only
  refine seq_nx (ρ1 := [some (stO ds a b c), some (.fz (.int 6)), some (.fz (.str lettersS)), none, none, none, none]) (by kernel_rfl) ?_
  refine seq_nx (asg_k (fz_k (dw e1))) ?_
  refine seq_nx (asg_k (fz_k (op_k rfl (op_k rfl (dw e2) (mul_k (by omega))) rfl))) ?_
  refine seq_nx (asg_k (fz_k (slice_k rfl rfl (psome_k (dw e3)) hsl))) ?_
  cases k4 with
  | true => exact seq_rt (if_t (b_k (op_k (dw e4) rfl (d := .bl true) (by rw [← hk4]; rfl))) rfl (ret_k tA))
  | false => exact seq_nx (if_f (b_k (op_k (dw e4) rfl (d := .bl false) (by rw [← hk4]; rfl))) rfl rfl) (ret_k tB)
end Hd
set_option Elab.async false
set_option linter.all false
set_option maxRecDepth 100000
set_option maxHeartbeats 4000000
set_option autoImplicit false
namespace Hd
open PySem PySem.Spec L2 PI
def endA (n : Nat) (pr : List Nat) (as : List O) (x : Option (Fl × Rho)) : Option (O × Rho) := match x with
  | some (.nx, ρ') => (match decide (n ≤ ρ'.length) with
    | true => some (.fz .non, finA pr 0 as ρ')
    | false => none)
  | some (.rt o, ρ') => (match decide (n ≤ ρ'.length) with
    | true => some (o, finA pr 0 as ρ')
    | false => none)
  | _ => none
theorem run_end {np n : Nat} {pr : List Nat} {body : MS} {as : List O} {x : Option (Fl × Rho)} {r : Option (O × Rho)} (e : body (as.map some ++ List.replicate (n - np) none) = x) (e2 : endA n pr as x = r) (h1 : (decide (as.length = np) && PI.argsOk pr 0 as) = true := by rfl) : runDef np n pr body as = r := by
  rw [← e2, ← e]
  unfold runDef
  rw [h1]
  rfl
theorem seq_end {g h : MS} {ρ ρ1 : Rho} (e : g ρ = some (.nx, ρ1)) : sSeq g h ρ = h ρ1 := seq_nx e rfl
abbrev T : List D → D := .tup
abbrev S : Str → D := .str
def numD (k : Int) : D := if k < 0 then T [S "scale", .int (-1), T [S "number", .int (-k)]] else T [S "number", .int k]
def addD (x : Str) (k : Int) : D := T [S "set", T [T [S x, T [S "plus", T [S "name", S x], numD k]]]]
def nmD (x : Str) : D := T [S "name", S x]
def orderD (log : Int) (sw : Bool) (a w : Str) : List D :=
  let o := [T [S "array", S a], T [S "array", S w]].take (1 + log.toNat)
  if sw then o.reverse else o
def deedsD (nm : Str) (log : Int) (sw : Bool) (sh by_ : Int) (x a w k t i : Str) : List D :=
  let items : List D := T [S "int", S x] :: orderD log sw a w
  let places : D := T [T [S "int", S t], T [S "int", S i]]
  let lg : List D := if log = 1 then [T [S "push", nmD k, S w]] else []
  let low := numD sh
  let less : D := T [S "if", T [S "less", low, nmD x], T [addD x (-by_)], T []]
  let told : D := if by_ = 1 then T [S "minus", nmD x, low] else T [S "length", S a]
  let results : D := T [S "result.x", S "result.y"]
  let put : D := T [S ("put" ++ nm), T (items ++ [T [S "int", S k]]), results, places, T [], T [], T [], T [], T ([T [S "push", nmD k, S a]] ++ lg ++ [addD x by_, T [S "give", T [nmD x, told]]])]
  let take_ : D := T [S ("take" ++ nm), T items, results, places, T [], T [], T [], T [], T [T [S "pop", S t, S a], less, T [S "give", T [nmD x, nmD t]]]]
  let sums : D := T [S "set", T [T [S t, T [S "plus", nmD t, T [S "item", S a, nmD i]]]]]
  let loop : D := T [S "while", T [S "less", nmD i, T [S "length", S a]], T [sums, addD i 1]]
  let walk : D := T [S ("walk" ++ nm), T items, results, places, T [], T [], T [], T [], T [loop, T [S "give", T [nmD x, nmD t]]]]
  [put, take_, walk]
def coreD (nm : Str) (log : Int) (sw : Bool) (sh by_ many : Int) (x a w k t i : Str) : D := T ((deedsD nm log sw sh by_ x a w k t i).take many.toNat)
def partD (nm : Str) (log sh many : Int) : D := T [.int 1, .int (1 + log), T [], T ((["put" ++ nm, "take" ++ nm, "walk" ++ nm].take many.toNat).map S), T (.int sh :: if log = 1 then [T [], T []] else [T []])]
theorem side_ok (nm : Str) (log : Int) (sw : Bool) (sh by_ many : Int) (hn : nm = "l" ∧ log = 0 ∧ sw = false ∧ sh = 0 ∨ nm = "r" ∧ (log = 0 ∧ sw = false ∨ log = 1) ∧ (sh = 0 ∨ sh = 1 ∨ sh = 3 ∨ sh = -2)) (hb : by_ = 1 ∨ by_ = 2) (hm : many = 1 ∨ many = 2 ∨ many = 3) (ds : List Int) (a b c : Int) :
    ∃ (a' b' c' : Int) (x a1 w k t i : Str), namesOk [x, a1, w, k, t, i] = true ∧ c_u_law_side [stO ds a b c, .fz (spD nm log sw sh by_ many)] = some (.fz (T [coreD nm log sw sh by_ many x a1 w k t i, partD nm log sh many]), [some (stO ds a' b' c'), some (.fz (spD nm log sw sh by_ many))]) := by
  obtain ⟨a', b', c', ns, hl, hs, e⟩ := words6 ds a b c
  obtain ⟨x, a1, w, k, t, i, rfl⟩ : ∃ x a1 w k t i, ns = [x, a1, w, k, t, i] := by
    match ns, hl with
    | [x, a1, w, k, t, i], _ => exact ⟨x, a1, w, k, t, i, rfl⟩
  refine ⟨a', b', c', x, a1, w, k, t, i, hs, ?_⟩
  have hu : ∀ sp : D, sUnp (mFrz (mCall c_u_law_words [some 0, none] (aLend 0 (aCons (oFz (mC (D.int 6))) aNil)))) (gTupD 6 (gsCons (gSet 2) (gsCons (gSet 3) (gsCons (gSet 4) (gsCons (gSet 5) (gsCons (gSet 6) (gsCons (gSet 7) gsNil)))))))
      (some (stO ds a b c) :: some (.fz sp) :: List.replicate 26 none) = some (.nx, [some (stO ds a' b' c'), some (.fz sp), some (.fz (S x)), some (.fz (S a1)), some (.fz (S w)), some (.fz (S k)), some (.fz (S t)), some (.fz (S i))] ++ List.replicate 20 none) := fun sp => by
    unfold sUnp
    rw [frz_k (call2 e)]
    rfl
  unfold c_u_law_side
  refine run_end rfl ?_
  unfold der_u_law_side
  show endA 28 [0] _ (sSeq _ _ (some (stO ds a b c) :: some (.fz (spD nm log sw sh by_ many)) :: List.replicate 26 none)) = _
  rw [seq_end (hu _)]
  rcases hb with rfl | rfl <;> rcases hm with rfl | rfl | rfl <;> rcases hn with ⟨rfl, rfl, rfl, rfl⟩ | ⟨rfl, ⟨rfl, rfl⟩ | rfl, rfl | rfl | rfl | rfl⟩
  all_goals (try cases sw)
  all_goals kernel_rfl
end Hd
set_option Elab.async false
set_option linter.all false
set_option maxRecDepth 100000
set_option maxHeartbeats 4000000
set_option autoImplicit false
/-! P36x: the converter, the procedures as known ones. -/
namespace Hd
open PySem PySem.Spec L2 PI
local macro_rules | `(tactic| get_elem_tactic_trivial) => `(tactic| (repeat' (first
  | with_reducible assumption
  | with_reducible apply seq_rt
  | with_reducible apply seq_nx
  | with_reducible apply ev_ret
  | with_reducible apply ev_asg2
  | with_reducible apply ev_append2
  | with_reducible apply ev_extend2
  | with_reducible apply ev_unp
  | with_reducible apply ev_aug2
  | with_reducible apply ev_fz
  | with_reducible apply ev_tup
  | with_reducible apply ev_lst
  | with_reducible apply ev_cons
  | with_reducible apply ev_op
  | with_reducible apply ev_op1
  | with_reducible apply ev_fn
  | with_reducible apply ev_frz
  | with_reducible apply ev_b
  | with_reducible apply ev_if
  | with_reducible apply ev_not
  | with_reducible apply ev_aCons
  | with_reducible apply ev_aLend
  | with_reducible apply ev_callD
  | with_reducible apply ev_call2
  | with_reducible exact add_str (by assumption)
  | assumption
  | exact two_le
  | dsimp only
  | exact rfl
  | exact small (by simp)
  | decide)))
/-- log, swapped: three cases -/
def LogOk (log : Int) (sw : Bool) : Prop := log = 0 ∧ sw = false ∨ log = 1 ∧ sw = false ∨ log = 1 ∧ sw = true
def cvI (log : Int) (x a w : Str) : List It := [(false, x), (true, a)] ++ if log = 1 then [(true, w)] else []
def cvPl (log : Int) (sw : Bool) : List Int := if log = 1 then (if sw then [1, 0] else [0, 1]) else [0]
def giveD (x : Str) (sh : Int) : D := T [S "give", T [T [S "plus", nmD x, numD sh]]]
def testD (x t : Str) : D := T [S "if", T [S "less", nmD x, T [S "number", .int 3]], T [T [S "set", T [T [S t, T [S "number", .int 1]]]]], T [T [S "pause"]]]
def cvB (tst : Bool) (x t : Str) (sh : Int) : D := T ((if tst then [testD x t] else []) ++ [giveD x sh])
def cvP (log sh : Int) (tst : Bool) (x a w t : Str) : Str × List D := ("cv", [T ((cvI log x a w).map itD), T [S "result.x"], T [T [S "int", S t]], T [], T [], T [], T [], cvB tst x t sh])
def convD (log : Int) (sw : Bool) : D := T [S "cv", T ((cvPl log sw).map .int)]
theorem num_ok (k : Int) : c_u_law_num [.fz (.int k)] = some (.fz (numD k), [some (.fz (.int k))]) := by
  by_cases h : k < 0
  · refine ev_run (ρ' := [some (.fz (.int k))]) ?_ rfl rfl rfl
    unfold der_u_law_num numD
    rw [if_pos h]
    refine seq_rt (ev_if (k := true) (ev_b (ev_op rfl rfl (by show some (D.bl (decide (k < 0))) = _; rw [decide_eq_true h]))) ?_)
    rfl
  · refine ev_run (ρ' := [some (.fz (.int k))]) ?_ rfl rfl rfl
    unfold der_u_law_num numD
    rw [if_neg h]
    refine seq_nx (ev_if (k := false) (ev_b (ev_op rfl rfl (by show some (D.bl (decide (k < 0))) = _; rw [decide_eq_false h]))) rfl) ?_
    rfl
theorem conv_ok (log : Int) (sw : Bool) (sh by_ many : Int) (hl : LogOk log sw) (ds : List Int) (a b c : Int) : ∃ (a' b' c' : Int) (x a1 w t : Str) (tst : Bool), namesOk [x, a1, w, t] = true ∧
    c_u_law_converter [stO ds a b c, .fz (T [spD "l" 0 false 0 by_ many, spD "r" log sw sh by_ many])] = some (.fz (T [prD (cvP log sh tst x a1 w t), convD log sw]), [some (stO ds a' b' c'), some (.fz (T [spD "l" 0 false 0 by_ many, spD "r" log sw sh by_ many]))]) := by
  obtain ⟨a1, b1, c1, ns, hln, hs, e⟩ := words4 ds a b c
  obtain ⟨x, ar, w, t, rfl⟩ : ∃ x a1 w t, ns = [x, a1, w, t] := by
    match ns, hln with
    | [x, a1, w, t], _ => exact ⟨x, a1, w, t, rfl⟩
  obtain ⟨v4, a4, b4, c4, l4, u4, e4⟩ := draw_ok ds a1 b1 c1 2 (by decide) (by decide)
  refine ⟨a4, b4, c4, x, ar, w, t, decide (v4 = 0), hs, ?_⟩
  generalize hsp : T [spD "l" 0 false 0 by_ many, spD "r" log sw sh by_ many] = sp
  have hu : sUnp (mFrz (mCall c_u_law_words [some 0, none] (aLend 0 (aCons (oFz (mC (D.int 4))) aNil)))) (gTupD 4 (gsCons (gSet 2) (gsCons (gSet 3) (gsCons (gSet 4) (gsCons (gSet 5) gsNil)))))
      [some (stO ds a b c), some (.fz sp), none, none, none, none, none, none, none, none, none] = some (.nx, [some (stO ds a1 b1 c1), some (.fz sp), some (.fz (S x)), some (.fz (S ar)), some (.fz (S w)), some (.fz (S t)), none, none, none, none, none]) := by
    unfold sUnp
    rw [frz_k (call2 e)]
    rfl
  have e8 : dIx (spD "r" log sw sh by_ many) (S "shift") = some (.int sh) := by kernel_rfl
  refine ev_run (ρ' := [some (stO ds a4 b4 c4), some (.fz sp), some (.fz (S x)), some (.fz (S ar)), some (.fz (S w)), some (.fz (S t)), some (.fz (T ((cvI log x ar w).map itD))), some (.fz (T ((cvPl log sw).map .int))), some (.fz (.int sh)), some (.fz (cvB (decide (v4 = 0)) x t sh)), (if decide (v4 = 0) then some (.fz (testD x t)) else none)]) ?_ rfl rfl rfl
  unfold der_u_law_converter
  dsimp only
  refine seq_nx hu ?_
  refine seq_nx (ρ1 := [some (stO ds a1 b1 c1), some (.fz sp), some (.fz (S x)), some (.fz (S ar)), some (.fz (S w)), some (.fz (S t)), some (.fz (T ([(false, x), (true, ar)].map itD))), none, none, none, none]) (by kernel_rfl) ?_
  refine seq_nx (ρ1 := [some (stO ds a1 b1 c1), some (.fz sp), some (.fz (S x)), some (.fz (S ar)), some (.fz (S w)), some (.fz (S t)), some (.fz (T ([(false, x), (true, ar)].map itD))), some (.fz (T [.int 0])), none, none, none]) (by kernel_rfl) ?_
  refine seq_nx (ρ1 := [some (stO ds a1 b1 c1), some (.fz sp), some (.fz (S x)), some (.fz (S ar)), some (.fz (S w)), some (.fz (S t)), some (.fz (T ((cvI log x ar w).map itD))), some (.fz (T ((cvPl log sw).map .int))), none, none, none]) ?_ ?_
  · subst hsp
    rcases hl with ⟨rfl, rfl⟩ | ⟨rfl, rfl⟩ | ⟨rfl, rfl⟩ <;> kernel_rfl
  refine seq_nx (ρ1 := [some (stO ds a1 b1 c1), some (.fz sp), some (.fz (S x)), some (.fz (S ar)), some (.fz (S w)), some (.fz (S t)), some (.fz (T ((cvI log x ar w).map itD))), some (.fz (T ((cvPl log sw).map .int))), some (.fz (.int sh)), none, none]) ?_ ?_
  · subst hsp
    have : sh - 0 = sh := by omega
    have hev : ∀ R : Rho, R = [some (stO ds a1 b1 c1), some (.fz (T [spD "l" 0 false 0 by_ many, spD "r" log sw sh by_ many])), some (.fz (S x)), some (.fz (S ar)), some (.fz (S w)), some (.fz (S t)), some (.fz (T ((cvI log x ar w).map itD))), some (.fz (T ((cvPl log sw).map .int))), none, none, none] →
        oFz (mOp2 dSub (mOp2 dIx (mOp2 dIx (mVar 1) (mC (D.int 1))) (mC (D.str (Str.ofString "shift")))) (mOp2 dIx (mOp2 dIx (mVar 1) (mC (D.int 0))) (mC (D.str (Str.ofString "shift"))))) R = some (.fz (.int (sh - 0)), R) := by
      intro R hR
      exact ev_fz (ev_op (x := .int sh) (y := .int 0) (ρ1 := R) (by rw [hR]; kernel_rfl) (by rw [hR]; kernel_rfl) rfl)
    refine ev_asg2 (hev _ rfl) rfl ?_
    rw [this]
    rfl
  refine seq_nx (ρ1 := [some (stO ds a1 b1 c1), some (.fz sp), some (.fz (S x)), some (.fz (S ar)), some (.fz (S w)), some (.fz (S t)), some (.fz (T ((cvI log x ar w).map itD))), some (.fz (T ((cvPl log sw).map .int))), some (.fz (.int sh)), some (.fz (T [giveD x sh])), none]) ?_ ?_
  · refine ev_asg2 (o := .fz (T [giveD x sh])) (ev_fz (ev_tup (ds := [giveD x sh]) (ev_one (ev_tup (ds := [S "give", T [T [S "plus", nmD x, numD sh]]]) (ev_cons rfl (ev_one (ev_tup (ds := [T [S "plus", nmD x, numD sh]]) (ev_one (ev_tup (ds := [S "plus", nmD x, numD sh]) (ev_cons rfl (ev_cons rfl (ev_one (ev_frz (ev_callD (ds := [.int sh]) (ev_one rfl) (num_ok sh) rfl) rfl)))) (small (by simp)))) (small (by simp))))) two_le)) (small (by simp)))) rfl rfl
  cases hk : decide (v4 = 0) with
  | true =>
    refine seq_nx (ρ1 := [some (stO ds a4 b4 c4), some (.fz sp), some (.fz (S x)), some (.fz (S ar)), some (.fz (S w)), some (.fz (S t)), some (.fz (T ((cvI log x ar w).map itD))), some (.fz (T ((cvPl log sw).map .int))), some (.fz (.int sh)), some (.fz (cvB true x t sh)), some (.fz (testD x t))]) (ev_if (k := true) (ev_b (ev_op (dw e4) rfl (by show some (D.bl (decide (v4 = 0))) = _; rw [hk]))) ?_) ?_
    · dsimp only
      kernel_rfl
    · rcases hl with ⟨rfl, rfl⟩ | ⟨rfl, rfl⟩ | ⟨rfl, rfl⟩ <;> kernel_rfl
  | false =>
    refine seq_nx (ρ1 := [some (stO ds a4 b4 c4), some (.fz sp), some (.fz (S x)), some (.fz (S ar)), some (.fz (S w)), some (.fz (S t)), some (.fz (T ((cvI log x ar w).map itD))), some (.fz (T ((cvPl log sw).map .int))), some (.fz (.int sh)), some (.fz (cvB false x t sh)), none]) (ev_if (k := false) (ev_b (ev_op (dw e4) rfl (by show some (D.bl (decide (v4 = 0))) = _; rw [hk]))) ?_) ?_
    · rfl
    · rcases hl with ⟨rfl, rfl⟩ | ⟨rfl, rfl⟩ | ⟨rfl, rfl⟩ <;> kernel_rfl
/-! the procedures -/
def lgI (log : Int) (sw : Bool) (a w : Str) : List It := if log = 1 then (if sw then [(true, w), (true, a)] else [(true, a), (true, w)]) else [(true, a)]
def putVs (log : Int) (x a w : Str) : List Str := ["#" ++ a] ++ (if log = 1 then ["#" ++ w] else []) ++ [x]
def knL (nm : Str) (log : Int) (sw : Bool) (sh by_ : Int) (x a w k t i : Str) : Kn :=
  let its := (false, x) :: lgI log sw a w
  let results : D := T ((["result.x", "result.y"] : List Str).map .str)
  let places : D := T [T [S "int", S t], T [S "int", S i]]
  let lg : List D := if log = 1 then [T [S "push", nmD k, S w]] else []
  let low := numD sh
  let less : D := T [S "if", T [S "less", low, nmD x], T [addD x (-by_)], T []]
  let told : D := if by_ = 1 then T [S "minus", nmD x, low] else T [S "length", S a]
  let sums : D := T [S "set", T [T [S t, T [S "plus", nmD t, T [S "item", S a, nmD i]]]]]
  let loop : D := T [S "while", T [S "less", nmD i, T [S "length", S a]], T [sums, addD i 1]]
  [(("put" ++ nm, [T ((its ++ [(false, k)]).map itD), results, places, T [], T [], T [], T [], T ([T [S "push", nmD k, S a]] ++ lg ++ [addD x by_, T [S "give", T [nmD x, told]]])]), putVs log x a w),
   (("take" ++ nm, [T (its.map itD), results, places, T [], T [], T [], T [], T [T [S "pop", S t, S a], less, T [S "give", T [nmD x, nmD t]]]]), [t, "#" ++ a, x]),
   (("walk" ++ nm, [T (its.map itD), results, places, T [], T [], T [], T [], T [loop, T [S "give", T [nmD x, nmD t]]]]), [t, i])]
theorem knL_core (nm : Str) (log : Int) (sw : Bool) (sh by_ many : Int) (x a w k t i : Str) (hl : LogOk log sw) (hm : many = 1 ∨ many = 2 ∨ many = 3) : coreD nm log sw sh by_ many x a w k t i = knD ((knL nm log sw sh by_ x a w k t i).take many.toNat) := by
  rcases hl with ⟨rfl, rfl⟩ | ⟨rfl, rfl⟩ | ⟨rfl, rfl⟩ <;> rcases hm with rfl | rfl | rfl <;> kernel_rfl
def expD (x : Str) (k : Int) : D := T [S "plus", T [S "name", S x], numD k]
theorem known_mk {pr body : D} (ms : List Sm) {vs : List Str} (h1 : dIx pr (.int 8) = some body) (h2 : c_statements_in [.fz body] = some (.lst ((ms.map smD).map .fz), [some (.fz body)])) (h4 : ms.all smOk = true) (h5 : ms.flatMap asg = vs) (h6 : vs.length < 500) : Known pr vs := ⟨body, ms, _, h1, h2, rfl, h4, h5, h6⟩
theorem knL_ok (nm : Str) (log : Int) (sw : Bool) (sh by_ : Int) (x a w k t i : Str) (hl : LogOk log sw) (hn : namesOk [x, a, w, k, t, i] = true) : KnOk (knL nm log sw sh by_ x a w k t i) := by
  have hlen : a.length < 1000 ∧ w.length < 1000 := by
    simp [namesOk] at hn
    omega
  obtain ⟨h1, h2⟩ := hlen
  intro q hq
  simp only [knL, List.mem_cons, List.not_mem_nil, or_false] at hq
  rcases hq with rfl | rfl | rfl
  · rcases hl with ⟨rfl, rfl⟩ | ⟨rfl, rfl⟩ | ⟨rfl, rfl⟩
    · exact known_mk [.push (nmD k) a, .set [(x, expD x by_)], .oth "give" [T [nmD x, if by_ = 1 then T [S "minus", nmD x, numD sh] else T [S "length", S a]]]] rfl (by kernel_rfl) (by simp [smOk, h1]; decide +kernel) (by kernel_rfl) (by simp [putVs])
    · exact known_mk [.push (nmD k) a, .push (nmD k) w, .set [(x, expD x by_)], .oth "give" [T [nmD x, if by_ = 1 then T [S "minus", nmD x, numD sh] else T [S "length", S a]]]] rfl (by kernel_rfl) (by simp [smOk, h1, h2]; decide +kernel) (by kernel_rfl) (by simp [putVs])
    · exact known_mk [.push (nmD k) a, .push (nmD k) w, .set [(x, expD x by_)], .oth "give" [T [nmD x, if by_ = 1 then T [S "minus", nmD x, numD sh] else T [S "length", S a]]]] rfl (by kernel_rfl) (by simp [smOk, h1, h2]; decide +kernel) (by kernel_rfl) (by simp [putVs])
  · exact known_mk [.pop t a, .oth "if" [T [S "less", numD sh, nmD x], T [addD x (-by_)], T []], .set [(x, expD x (-by_))], .oth "give" [T [nmD x, nmD t]]] rfl (by kernel_rfl) (by simp [smOk, h1]; decide +kernel) (by kernel_rfl) (by simp)
  · exact known_mk [.oth "while" [T [S "less", nmD i, T [S "length", S a]], T [T [S "set", T [T [S t, T [S "plus", nmD t, T [S "item", S a, nmD i]]]]], addD i 1]], .set [(t, T [S "plus", nmD t, T [S "item", S a, nmD i]])], .set [(i, expD i 1)], .oth "give" [T [nmD x, nmD t]]] rfl (by kernel_rfl) (by simp [smOk]; decide +kernel) (by kernel_rfl) (by simp)
def cvVs (tst : Bool) (t : Str) : List Str := if tst then [t] else []
theorem cv_known (log sh : Int) (tst : Bool) (x a w t : Str) : Known (prD (cvP log sh tst x a w t)) (cvVs tst t) := by
  cases tst with
  | true => exact known_mk [.oth "if" [T [S "less", nmD x, T [S "number", .int 3]], T [T [S "set", T [T [S t, T [S "number", .int 1]]]]], T [T [S "pause"]]], .set [(t, T [S "number", .int 1])], .oth "pause" [], .oth "give" [T [T [S "plus", nmD x, numD sh]]]] rfl (by kernel_rfl) (by simp [smOk]; decide +kernel) rfl (by simp [cvVs])
  | false => exact known_mk [.oth "give" [T [T [S "plus", nmD x, numD sh]]]] rfl (by kernel_rfl) (by simp [smOk]; decide +kernel) rfl (by simp [cvVs])
end Hd
set_option Elab.async false
set_option linter.all false
set_option maxRecDepth 100000
set_option maxHeartbeats 4000000
set_option autoImplicit false
/-! P36y: the parts of the claim. -/
namespace Hd
open PySem PySem.Spec L2 PI
local macro_rules | `(tactic| get_elem_tactic_trivial) => `(tactic| (repeat' (first
  | with_reducible assumption
  | with_reducible apply seq_rt
  | with_reducible apply seq_nx
  | with_reducible apply ev_ret
  | with_reducible apply ev_asg2
  | with_reducible apply ev_append2
  | with_reducible apply ev_extend2
  | with_reducible apply ev_unp
  | with_reducible apply ev_aug2
  | with_reducible apply ev_fz
  | with_reducible apply ev_tup
  | with_reducible apply ev_lst
  | with_reducible apply ev_cons
  | with_reducible apply ev_op
  | with_reducible apply ev_op1
  | with_reducible apply ev_fn
  | with_reducible apply ev_frz
  | with_reducible apply ev_b
  | with_reducible apply ev_if
  | with_reducible apply ev_not
  | with_reducible apply ev_aCons
  | with_reducible apply ev_aLend
  | with_reducible apply ev_callD
  | with_reducible apply ev_call2
  | with_reducible exact add_str (by assumption)
  | assumption
  | exact two_le
  | dsimp only
  | exact rfl
  | exact small (by simp)
  | decide)))
theorem ev_unpO {is : List Nat} {g : MO} {ρ ρ1 ρ2 : Rho} {os : List O} (e : g ρ = some (.tup os, ρ1)) (h : (decide (os.length = is.length) && allLt is ρ1.length && nodupN is) = true) (hs : setO os is ρ1 = ρ2) : sUnpO is g ρ = some (.nx, ρ2) := by
  unfold sUnpO; rw [e]; dsimp only; rw [h, ← hs]
theorem app_assoc (a b c : Str) : a ++ b ++ c = a ++ (b ++ c) := str_ext (by simp [app_list])
/-- the names that a case is about -/
structure Nms where
  x0 : Str
  a0 : Str
  x1 : Str
  a1 : Str
  w1 : Str
  xc : Str
  ac : Str
  wc : Str
  tc : Str
structure NmsOk (n : Nms) : Prop where
  l0 : n.x0.length ≤ 8
  l1 : n.a0.length ≤ 8
  l2 : n.x1.length ≤ 8
  l3 : n.a1.length ≤ 8
  l4 : n.w1.length ≤ 8
  l5 : n.xc.length ≤ 8
  l6 : n.ac.length ≤ 8
  l7 : n.wc.length ≤ 8
  l8 : n.tc.length ≤ 8
  dr : [n.x1, n.a1, n.w1].Nodup
  dl : [n.x0, n.a0].Nodup
  lo : ∀ s ∈ [n.x0, n.a0, n.x1, n.a1, n.w1, n.xc, n.ac, n.wc, n.tc], lowS s = true
  dc : n.xc ≠ n.tc
  sx : PyData.strOk n.xc = true
theorem low_app {c : Nat} {s t : Str} (hc : ¬(97 ≤ c ∧ c ≤ 122)) (h : lowS s = true) : s ≠ (⟨#[c]⟩ : Str) ++ t := by
  intro e
  subst e
  unfold lowS at h
  rw [app_list] at h
  simp at h
  omega
def vr (s : Str) : Fm := (0, [(s, 1)])
theorem var1_ok (s : Str) : c_variable [.fz (.str s)] = some (.fz (fD (vr s)), [some (.fz (.str s))]) := by kernel_rfl
theorem both_ok (f g : Fm) (h : f.2.length + g.2.length < 64) : ∃ as', c_both_ways [.fz (fD f), .fz (fD g)] = some (.fz (T [fD (minusF f g), fD (minusF g f)]), as') ∧ as'.length = 2 := by
  obtain ⟨as1, e1, l1⟩ := minus_ok f g h
  obtain ⟨as2, e2, l2⟩ := minus_ok g f (by omega)
  exact ⟨_, ev_run (ρ' := [some (.fz (fD f)), some (.fz (fD g))]) (ev_ret (ev_fz (ev_tup (ev_cons (ev_frz (ev_callD (ds := [fD f, fD g]) (ev_cons rfl (ev_one rfl)) e1 l1) rfl) (ev_one (ev_frz (ev_callD (ds := [fD g, fD f]) (ev_cons rfl (ev_one rfl)) e2 l2) rfl))) two_le))) rfl rfl rfl, rfl⟩
theorem lboth_ok (f g : Fm) (h : f.2.length + g.2.length < 64) : ∃ as', c_u_law_both_ways [.fz (fD f), .fz (fD g)] = some (.lst ([fD (minusF f g), fD (minusF g f)].map .fz), as') ∧ as'.length = 2 := by
  obtain ⟨as1, e1, l1⟩ := minus_ok f g h
  obtain ⟨as2, e2, l2⟩ := minus_ok g f (by omega)
  exact ⟨_, ev_run (ρ' := [some (.fz (fD f)), some (.fz (fD g))]) (ev_ret (ev_lst (ev_cons (ev_frz (ev_callD (ds := [fD f, fD g]) (ev_cons rfl (ev_one rfl)) e1 l1) rfl) (ev_one (ev_frz (ev_callD (ds := [fD g, fD f]) (ev_cons rfl (ev_one rfl)) e2 l2) rfl))) two_le)) rfl rfl rfl, rfl⟩
/-! the case -/
structure Cs where
  log : Int
  sw : Bool
  sh : Int
  by_ : Int
  many : Int
  tst : Bool
  n : Nms
  k0 : Str
  w0 : Str
  t0 : Str
  i0 : Str
  k1 : Str
  t1 : Str
  i1 : Str
def Cs.kn0 (c : Cs) : Kn := (knL "l" 0 false 0 c.by_ c.n.x0 c.n.a0 c.w0 c.k0 c.t0 c.i0).take c.many.toNat
def Cs.kn1 (c : Cs) : Kn := (knL "r" c.log c.sw c.sh c.by_ c.n.x1 c.n.a1 c.n.w1 c.k1 c.t1 c.i1).take c.many.toNat
def Cs.cv (c : Cs) : Str × List D := cvP c.log c.sh c.tst c.n.xc c.n.ac c.n.wc c.n.tc
def Cs.knc (c : Cs) : Kn := (c.cv, cvVs c.tst c.n.tc) :: c.kn1
def Cs.cores (c : Cs) : D := T [knD c.kn0, knD c.knc]
def Cs.parts (c : Cs) : D := T [partD "l" 0 0 c.many, partD "r" c.log c.sh c.many]
def Cs.pair (c : Cs) (I0 I1 : D) : D := .obj 0 ["cores", "parts", "invariants"] [c.cores, c.parts, T [I0, I1]]
structure CsOk (c : Cs) : Prop where
  lg : LogOk c.log c.sw
  mn : c.many = 1 ∨ c.many = 2 ∨ c.many = 3
  nm : NmsOk c.n
  k0 : KnOk c.kn0
  k1 : KnOk c.knc
def Cs.it0 (c : Cs) : List It := [(false, c.n.x0), (true, c.n.a0)]
def Cs.itc (c : Cs) : List It := cvI c.log c.n.xc c.n.ac c.n.wc
def Cs.it1 (c : Cs) : List It := (false, c.n.x1) :: lgI c.log c.sw c.n.a1 c.n.w1
def Cs.N0 (c : Cs) : List Str := c.it0.map fun i => "@" ++ varS i
def Cs.N1 (c : Cs) : List Str := c.it1.map fun i => "@" ++ varS i
def Cs.arrc (c : Cs) : List Str := if c.log = 1 then [c.n.ac, c.n.wc] else [c.n.ac]
def giv0 (c : Cs) : List Fm := [minusF (vr ("l.@" ++ c.n.x0)) (vr ("r.@" ++ c.n.xc)), minusF (vr ("r.@" ++ c.n.xc)) (vr ("l.@" ++ c.n.x0))] ++
  if c.log = 1 then [(0, [("r.@#" ++ c.n.wc, 1)]), (0, [("r.@#" ++ c.n.wc, -1)])] else []
theorem names_kn (nm : Str) (log : Int) (sw : Bool) (sh by_ : Int) (x a w k t i : Str) : (knL nm log sw sh by_ x a w k t i).map (·.1.1) = ["put" ++ nm, "take" ++ nm, "walk" ++ nm] := rfl
theorem nd0 (c : Cs) : (c.kn0.map (·.1.1)).Nodup := by
  unfold Cs.kn0
  rw [List.map_take, names_kn]
  exact (List.take_sublist _ _).nodup (by decide +kernel)
theorem ndc (c : Cs) : (c.knc.map (·.1.1)).Nodup := by
  unfold Cs.knc Cs.kn1
  rw [List.map_cons, List.map_take, names_kn]
  have : ("cv" :: List.take c.many.toNat ["put" ++ "r", "take" ++ "r", "walk" ++ "r"] : List Str).Sublist ["cv", "put" ++ "r", "take" ++ "r", "walk" ++ "r"] := (List.take_sublist _ _).cons₂ _
  exact this.nodup (by decide +kernel)
theorem len0 (c : Cs) : c.kn0.length < 1000 := by
  unfold Cs.kn0
  rw [List.length_take]
  have : (knL "l" 0 false 0 c.by_ c.n.x0 c.n.a0 c.w0 c.k0 c.t0 c.i0).length = 3 := rfl
  omega
theorem lenc (c : Cs) : c.knc.length < 1000 := by
  unfold Cs.knc Cs.kn1
  rw [List.length_cons, List.length_take]
  have : (knL "r" c.log c.sw c.sh c.by_ c.n.x1 c.n.a1 c.n.w1 c.k1 c.t1 c.i1).length = 3 := rfl
  omega
/-- the first deeds -/
def put0 (c : Cs) : (Str × List D) × List Str := (knL "l" 0 false 0 c.by_ c.n.x0 c.n.a0 c.w0 c.k0 c.t0 c.i0).headD (("", []), [])
def put1 (c : Cs) : (Str × List D) × List Str := (knL "r" c.log c.sw c.sh c.by_ c.n.x1 c.n.a1 c.n.w1 c.k1 c.t1 c.i1).headD (("", []), [])
theorem put0_in (c : Cs) (h : CsOk c) : put0 c ∈ c.kn0 := by
  unfold Cs.kn0 put0
  rcases h.mn with e | e | e <;> rw [e] <;> simp [knL]
theorem put1_in (c : Cs) (h : CsOk c) : put1 c ∈ c.knc := by
  unfold Cs.knc Cs.kn1 put1
  rcases h.mn with e | e | e <;> rw [e] <;> simp [knL]
theorem shortI0 (c : Cs) (h : CsOk c) : shortI (c.it0 ++ [(false, c.k0)]) → True := fun _ => trivial
theorem named0 (c : Cs) (h : CsOk c) : c_proc_named [.fz (knD c.kn0), .fz (.str "putl")] = some (.fz (prD (put0 c).1), [some (.fz (knD c.kn0)), some (.fz (.str "putl"))]) := nam_ok c.kn0 (nd0 c) (len0 c) (put0 c).1 (put0 c).2 (put0_in c h)
theorem namedc (c : Cs) (h : CsOk c) : c_proc_named [.fz (knD c.knc), .fz (.str "cv")] = some (.fz (prD c.cv), [some (.fz (knD c.knc)), some (.fz (.str "cv"))]) := nam_ok c.knc (ndc c) (lenc c) c.cv (cvVs c.tst c.n.tc) (by simp [Cs.knc])
theorem size_ok (p0 p1 : Int) (r : List D) : c_size_of [.fz (T (.int p0 :: .int p1 :: r))] = some (.fz (.int (p0 + p1)), [some (.fz (T (.int p0 :: .int p1 :: r)))]) := by
  exact ev_run (ρ' := [some (.fz (T (.int p0 :: .int p1 :: r)))]) (ev_ret (ev_fz (ev_op (x := .int p0) (y := .int p1) (ev_op (x := T (.int p0 :: .int p1 :: r)) rfl rfl ix0) (ev_op (x := T (.int p0 :: .int p1 :: r)) rfl rfl ix1) rfl))) rfl rfl rfl
def cvD (c : Cs) : D := convD c.log c.sw
def same0 (c : Cs) : D := T [S c.n.a0, S c.n.ac]
theorem catl {s : Str} (h : s.length ≤ 8) : mOp2 dAddG (mOp2 dAddG (mC (D.str (Str.ofString "l."))) (mC (D.str (Str.ofString "@")))) = mOp2 dAddG (mC (D.str (Str.ofString "l.@"))) → True := fun _ => trivial
theorem ad1 : dAddG (.str (Str.ofString "l.")) (.str (Str.ofString "@")) = some (.str "l.@") := by kernel_rfl
theorem ad2 : dAddG (.str (Str.ofString "r.")) (.str (Str.ofString "@")) = some (.str "r.@") := by kernel_rfl
theorem ad3 : dAddG (.str (Str.ofString "r.")) (.str (Str.ofString "@#")) = some (.str "r.@#") := by kernel_rfl
theorem ad4 : dAddG (.str (Str.ofString "r.")) (.str (Str.ofString ".")) = some (.str "r..") := by kernel_rfl
theorem len1 : ("l.@" : Str).length = 3 := by decide
theorem len2 : ("r.@" : Str).length = 3 := by decide
theorem len3 : ("r.@#" : Str).length = 4 := by decide
theorem ad1s {s : Str} (h : s.length ≤ 8) : dAddG (.str "l.@") (.str s) = some (.str ("l.@" ++ s)) := add_str (by rw [len1]; omega)
theorem ad2s {s : Str} (h : s.length ≤ 8) : dAddG (.str "r.@") (.str s) = some (.str ("r.@" ++ s)) := add_str (by rw [len2]; omega)
theorem ad3s {s : Str} (h : s.length ≤ 8) : dAddG (.str "r.@#") (.str s) = some (.str ("r.@#" ++ s)) := add_str (by rw [len3]; omega)
abbrev eqIf : MS := (sIf (bOf (mOp2 dEqD (mOp2 dIx (mVar 7) (mC (D.int 0))) (mC (D.str (Str.ofString "array")))))
                        (sAppend 6
                          (oFz
                            (mTup
                              (dsCons (mOp2 dIx (mVar 7) (mC (D.int 1)))
                                (dsCons (mOp2 dIx (mVar 8) (mC (D.int 1))) dsNil)))))
                        (sExtend 5
                          (mFrz
                            (oCallD c_both_ways
                              (dsCons
                                (mFrz
                                  (oCallD c_variable
                                    (dsCons
                                      (mOp2 dAddG
                                        (mOp2 dAddG (mC (D.str (Str.ofString "l."))) (mC (D.str (Str.ofString "@"))))
                                        (mOp2 dIx (mVar 7) (mC (D.int 1))))
                                      dsNil)))
                                (dsCons
                                  (mFrz
                                    (oCallD c_variable
                                      (dsCons
                                        (mOp2 dAddG
                                          (mOp2 dAddG (mC (D.str (Str.ofString "r."))) (mC (D.str (Str.ofString "@"))))
                                          (mOp2 dIx (mVar 8) (mC (D.int 1))))
                                        dsNil)))
                                  dsNil))))))
abbrev moreB : MS := (sSeq
                          (sAppend 5
                            (oCallD c_variable
                              (dsCons
                                (mOp2 dAddG
                                  (mOp2 dAddG (mC (D.str (Str.ofString "r."))) (mC (D.str (Str.ofString "@#"))))
                                  (mOp2 dIx (mVar 9) (mC (D.int 1))))
                                dsNil)))
                          (sAppend 5
                            (oFz
                              (mTup
                                (dsCons (mC (D.int 0))
                                  (dsCons
                                    (mTup
                                      (dsCons
                                        (mTup
                                          (dsCons
                                            (mOp2 dAddG
                                              (mOp2 dAddG (mC (D.str (Str.ofString "r.")))
                                                (mC (D.str (Str.ofString "@#"))))
                                              (mOp2 dIx (mVar 9) (mC (D.int 1))))
                                            (dsCons (mOp1 dNeg (mC (D.int 1))) dsNil)))
                                        dsNil))
                                    dsNil))))))
theorem eqIf_int (s0 s1 s2 s3 s4 s6 s9 : Option O) (x y : Str) (hx : x.length ≤ 8) (hy : y.length ≤ 8) : eqIf [s0, s1, s2, s3, s4, some (.lst []), s6, some (.fz (itD (false, x))), some (.fz (itD (false, y))), s9] =
    some (.nx, [s0, s1, s2, s3, s4, some (.lst (([minusF (vr ("l.@" ++ x)) (vr ("r.@" ++ y)), minusF (vr ("r.@" ++ y)) (vr ("l.@" ++ x))].map fD).map .fz)), s6, some (.fz (itD (false, x))), some (.fz (itD (false, y))), s9]) := by
  obtain ⟨as1, e1, l1⟩ := both_ok (vr ("l.@" ++ x)) (vr ("r.@" ++ y)) (by simp [vr])
  have a1 := ad1
  have a2 := ad2
  have b1 := ad1s hx
  have b2 := ad2s hy
  have v1 := var1_ok ("l.@" ++ x)
  have v2 := var1_ok ("r.@" ++ y)
  refine ev_if (k := false) (ρ1 := [s0, s1, s2, s3, s4, some (.lst []), s6, some (.fz (itD (false, x))), some (.fz (itD (false, y))), s9]) (by kernel_rfl) ?_
  dsimp only
  refine ev_extend2 (ρ1 := [s0, s1, s2, s3, s4, some (.lst []), s6, some (.fz (itD (false, x))), some (.fz (itD (false, y))), s9]) (d := T [fD (minusF (vr ("l.@" ++ x)) (vr ("r.@" ++ y))), fD (minusF (vr ("r.@" ++ y)) (vr ("l.@" ++ x)))]) (ds := [fD (minusF (vr ("l.@" ++ x)) (vr ("r.@" ++ y))), fD (minusF (vr ("r.@" ++ y)) (vr ("l.@" ++ x)))]) (os := []) rfl ?_ rfl rfl (small (by simp)) rfl
  refine ev_frz (ev_callD (ds := [fD (vr ("l.@" ++ x)), fD (vr ("r.@" ++ y))]) (ev_cons (ev_frz (ev_callD (ds := [S ("l.@" ++ x)]) (ev_one (ev_op (ev_op rfl rfl a1) (y := .str x) rfl b1)) v1 rfl) rfl) (ev_one (ev_frz (ev_callD (ds := [S ("r.@" ++ y)]) (ev_one (ev_op (ev_op rfl rfl a2) (y := .str y) rfl b2)) v2 rfl) rfl))) e1 l1) rfl
theorem eqIf_arr (s0 s1 s2 s3 s4 s5 s9 : Option O) (x y : Str) : eqIf [s0, s1, s2, s3, s4, s5, some (.lst []), some (.fz (itD (true, x))), some (.fz (itD (true, y))), s9] =
    some (.nx, [s0, s1, s2, s3, s4, s5, some (.lst [.fz (T [S x, S y])]), some (.fz (itD (true, x))), some (.fz (itD (true, y))), s9]) := by kernel_rfl
theorem more_ok (s0 s1 s2 s3 s4 s6 s7 s8 : Option O) (gs : List D) (w : Str) (hw : w.length ≤ 8) (hl : gs.length < 500) : moreB [s0, s1, s2, s3, s4, some (.lst (gs.map .fz)), s6, s7, s8, some (.fz (itD (true, w)))] =
    some (.nx, [s0, s1, s2, s3, s4, some (.lst ((gs ++ [fD (0, [("r.@#" ++ w, 1)]), fD (0, [("r.@#" ++ w, -1)])]).map .fz)), s6, s7, s8, some (.fz (itD (true, w)))]) := by
  have v1 := var1_ok ("r.@#" ++ w)
  have hz := size1000
  have e1 : mOp2 dAddG (mOp2 dAddG (mC (D.str (Str.ofString "r."))) (mC (D.str (Str.ofString "@#")))) (mOp2 dIx (mVar 9) (mC (D.int 1))) [s0, s1, s2, s3, s4, some (.lst (gs.map .fz)), s6, s7, s8, some (.fz (itD (true, w)))] = some (.str ("r.@#" ++ w), [s0, s1, s2, s3, s4, some (.lst (gs.map .fz)), s6, s7, s8, some (.fz (itD (true, w)))]) := ev_op (ev_op rfl rfl ad3) (y := .str w) rfl (ad3s hw)
  have e2 : mOp2 dAddG (mOp2 dAddG (mC (D.str (Str.ofString "r."))) (mC (D.str (Str.ofString "@#")))) (mOp2 dIx (mVar 9) (mC (D.int 1))) [s0, s1, s2, s3, s4, some (.lst ((gs ++ [fD (vr ("r.@#" ++ w))]).map .fz)), s6, s7, s8, some (.fz (itD (true, w)))] = some (.str ("r.@#" ++ w), [s0, s1, s2, s3, s4, some (.lst ((gs ++ [fD (vr ("r.@#" ++ w))]).map .fz)), s6, s7, s8, some (.fz (itD (true, w)))]) := ev_op (ev_op rfl rfl ad3) (y := .str w) rfl (ad3s hw)
  refine seq_nx (ρ1 := [s0, s1, s2, s3, s4, some (.lst ((gs ++ [fD (vr ("r.@#" ++ w))]).map .fz)), s6, s7, s8, some (.fz (itD (true, w)))]) ?_ ?_
  · refine ev_append2 rfl (ev_callD (ds := [S ("r.@#" ++ w)]) (ev_one e1) v1 rfl) rfl (by simp; omega) (by simp)
  · refine ev_append2 rfl (ev_fz (ev_tup (ev_cons rfl (ev_one (ev_tup (ev_one (ev_tup (ev_cons e2 (ev_one rfl)) two_le)) (small (by simp))))) two_le)) rfl (by simp; omega) ?_
    simp [fD, vr, pD]
def namesD (nm : Str) (many : Int) : D := T ((["put" ++ nm, "take" ++ nm, "walk" ++ nm].take many.toNat).map S)
theorem part3 (nm : Str) (log sh many : Int) : dIx (partD nm log sh many) (.int 3) = some (namesD nm many) := rfl
theorem part30 (nm : Str) (many : Int) (h : many = 1 ∨ many = 2 ∨ many = 3) : dIx (namesD nm many) (.int 0) = some (S ("put" ++ nm)) := by
  rcases h with rfl | rfl | rfl <;> rfl
theorem sizeP (nm : Str) (log sh many : Int) : c_size_of [.fz (partD nm log sh many)] = some (.fz (.int (1 + (1 + log))), [some (.fz (partD nm log sh many))]) := size_ok _ _ _
theorem put0_it (c : Cs) : dIx (prD (put0 c).1) (.int 1) = some (T ((c.it0 ++ [(false, c.k0)]).map itD)) := rfl
theorem cvit (c : Cs) : dIx (prD c.cv) (.int 1) = some (T (c.itc.map itD)) := rfl
theorem mine0 (c : Cs) : dSlice (T ((c.it0 ++ [(false, c.k0)]).map itD)) none (some (1 + (1 + 0))) = some (T (c.it0.map itD)) := rfl
theorem mineE (c : Cs) (h : CsOk c) (ρ : Rho) (gc gp : MD) (hc : gc ρ = some (knD c.kn0, ρ)) (hp : gp ρ = some (partD "l" 0 0 c.many, ρ)) :
    mSlice (mOp2 dIx (mFrz (oCallD c_proc_named (dsCons gc (dsCons (mOp2 dIx (mOp2 dIx gp (mC (D.int 3))) (mC (D.int 0))) dsNil)))) (mC (D.int 1))) pNone (pSome (mFrz (oCallD c_size_of (dsCons gp dsNil)))) ρ = some (T (c.it0.map itD), ρ) :=
  ev_slice (ev_op (ev_frz (ev_callD (ds := [knD c.kn0, S "putl"]) (ev_cons hc (ev_one (ev_op (ev_op hp rfl (part3 _ _ _ _)) rfl (part30 _ _ h.mn)))) (named0 c h) rfl) rfl) rfl (put0_it c)) rfl (ev_some (ev_frz (ev_callD (ds := [partD "l" 0 0 c.many]) (ev_one hp) (sizeP _ _ _ _) rfl) rfl)) (mine0 c)
theorem equal_ok (c : Cs) (h : CsOk c) (I0 I1 : D) : ∃ as', c_equal_states [.fz (c.pair I0 I1), .fz (cvD c)] = some (.tup [.lst (((giv0 c).map fD).map .fz), .lst [.fz (same0 c)]], as') ∧ as'.length = 2 := by
  let P : D := c.pair I0 I1
  let part : D := partD "l" 0 0 c.many
  let mine : D := T (c.it0.map itD)
  let theirs : D := T (c.itc.map itD)
  let g2 : List Fm := [minusF (vr ("l.@" ++ c.n.x0)) (vr ("r.@" ++ c.n.xc)), minusF (vr ("r.@" ++ c.n.xc)) (vr ("l.@" ++ c.n.x0))]
  have e1 := eqIf_int (some (.fz P)) (some (.fz (cvD c))) (some (.fz part)) (some (.fz mine)) (some (.fz theirs)) (some (.lst [])) none c.n.x0 c.n.xc h.nm.l0 h.nm.l5
  have e2 := eqIf_arr (some (.fz P)) (some (.fz (cvD c))) (some (.fz part)) (some (.fz mine)) (some (.fz theirs)) (some (.lst ((g2.map fD).map .fz))) none c.n.a0 c.n.ac
  have e3 := more_ok (some (.fz P)) (some (.fz (cvD c))) (some (.fz part)) (some (.fz mine)) (some (.fz theirs)) (some (.lst [.fz (same0 c)])) (some (.fz (itD (true, c.n.a0)))) (some (.fz (itD (true, c.n.ac)))) (g2.map fD) c.n.wc h.nm.l7 (by simp [g2])
  have cor0 : ∀ ρ : Rho, ρ[0]? = some (some (.fz P)) → mOp2 dIx (mOp1 (dAttr ok_cores (Str.ofString "cores")) (mVar 0)) (mC (D.int 0)) ρ = some (knD c.kn0, ρ) := fun ρ hρ => by
    have : mVar 0 ρ = some (P, ρ) := by unfold mVar; rw [hρ]
    exact ev_op (x := c.cores) (ev_op1 this (by kernel_rfl)) rfl (by kernel_rfl)
  have cor1 : ∀ ρ : Rho, ρ[0]? = some (some (.fz P)) → mOp2 dIx (mOp1 (dAttr ok_cores (Str.ofString "cores")) (mVar 0)) (mC (D.int 1)) ρ = some (knD c.knc, ρ) := fun ρ hρ => by
    have : mVar 0 ρ = some (P, ρ) := by unfold mVar; rw [hρ]
    exact ev_op (x := c.cores) (ev_op1 this (by kernel_rfl)) rfl (by kernel_rfl)
  obtain ⟨s9, hfin⟩ : ∃ s9 : Option O, (sFor (iSeq (mSlice (mVar 4) (pSome (mFrz (oCallD c_size_of (dsCons (mVar 2) dsNil)))) pNone)) (gSet 9) moreB) [some (.fz P), some (.fz (cvD c)), some (.fz part), some (.fz mine), some (.fz theirs), some (.lst ((g2.map fD).map .fz)), some (.lst [.fz (same0 c)]), some (.fz (itD (true, c.n.a0))), some (.fz (itD (true, c.n.ac))), none] =
      some (.nx, [some (.fz P), some (.fz (cvD c)), some (.fz part), some (.fz mine), some (.fz theirs), some (.lst (((giv0 c).map fD).map .fz)), some (.lst [.fz (same0 c)]), some (.fz (itD (true, c.n.a0))), some (.fz (itD (true, c.n.ac))), s9]) := by
    have hsl : ∀ ds : List D, dSlice theirs (some (1 + (1 + 0))) none = some (T ds) → iSeq (mSlice (mVar 4) (pSome (mFrz (oCallD c_size_of (dsCons (mVar 2) dsNil)))) pNone) [some (.fz P), some (.fz (cvD c)), some (.fz part), some (.fz mine), some (.fz theirs), some (.lst ((g2.map fD).map .fz)), some (.lst [.fz (same0 c)]), some (.fz (itD (true, c.n.a0))), some (.fz (itD (true, c.n.ac))), none] =
        some (ds, [some (.fz P), some (.fz (cvD c)), some (.fz part), some (.fz mine), some (.fz theirs), some (.lst ((g2.map fD).map .fz)), some (.lst [.fz (same0 c)]), some (.fz (itD (true, c.n.a0))), some (.fz (itD (true, c.n.ac))), none]) := fun ds hd =>
      ev_seqT (ev_slice (x := theirs) rfl (ev_some (ev_frz (ev_callD (ds := [part]) (ev_one rfl) (sizeP _ _ _ _) rfl) rfl)) rfl hd)
    rcases h.lg with ⟨hl, _⟩ | ⟨hl, _⟩ | ⟨hl, _⟩
    · refine ⟨none, ev_for (hsl [] ?_) ?_⟩
      · simp only [theirs, Cs.itc, hl]; rfl
      · simp only [giv0, hl]; rfl
    · refine ⟨some (.fz (itD (true, c.n.wc))), ev_for (hsl [itD (true, c.n.wc)] ?_) (ev_for1 rfl e3 ?_)⟩
      · simp only [theirs, Cs.itc, hl]; rfl
      · simp only [giv0, hl]; rfl
    · refine ⟨some (.fz (itD (true, c.n.wc))), ev_for (hsl [itD (true, c.n.wc)] ?_) (ev_for1 rfl e3 ?_)⟩
      · simp only [theirs, Cs.itc, hl]; rfl
      · simp only [giv0, hl]; rfl
  have hz : iZip (mVar 3) (mVar 4) [some (.fz P), some (.fz (cvD c)), some (.fz part), some (.fz mine), some (.fz theirs), some (.lst []), some (.lst []), none, none, none] = some ([T [itD (false, c.n.x0), itD (false, c.n.xc)], T [itD (true, c.n.a0), itD (true, c.n.ac)]], [some (.fz P), some (.fz (cvD c)), some (.fz part), some (.fz mine), some (.fz theirs), some (.lst []), some (.lst []), none, none, none]) := by
    rcases h.lg with ⟨hl, _⟩ | ⟨hl, _⟩ | ⟨hl, _⟩ <;> simp only [theirs, Cs.itc, hl] <;> rfl
  refine ⟨_, ev_run (ρ' := [some (.fz P), some (.fz (cvD c)), some (.fz part), some (.fz mine), some (.fz theirs), none, none, some (.fz (itD (true, c.n.a0))), some (.fz (itD (true, c.n.ac))), s9]) ?_ rfl rfl rfl, rfl⟩
  unfold der_equal_states
  dsimp only
  refine seq_nx (ρ1 := [some (.fz P), some (.fz (cvD c)), some (.fz part), none, none, none, none, none, none, none]) (by kernel_rfl) ?_
  refine seq_nx (ev_asg2 (ev_fz (mineE c h _ _ _ (cor0 _ rfl) rfl)) rfl rfl) ?_
  refine seq_nx (ev_asg2 (ev_fz (ev_op (ev_frz (ev_callD (ds := [knD c.knc, S "cv"]) (ev_cons (cor1 _ rfl) (ev_one (by rfl))) (namedc c h) rfl) rfl) rfl (cvit c))) rfl rfl) ?_
  refine seq_nx (ev_asg2 (o := .lst []) rfl rfl rfl) ?_
  refine seq_nx (ev_asg2 (o := .lst []) rfl rfl rfl) ?_
  refine seq_nx (ev_for hz (ev_for1 rfl e1 (ev_for1 rfl e2 rfl))) ?_
  refine seq_nx hfin ?_
  rfl
end Hd
set_option Elab.async false
set_option linter.all false
set_option maxRecDepth 100000
set_option maxHeartbeats 4000000
set_option autoImplicit false
/-! P36z: the pairs of the right state. -/
namespace Hd
open PySem PySem.Spec L2 PI
local macro_rules | `(tactic| get_elem_tactic_trivial) => `(tactic| (repeat' (first
  | with_reducible assumption
  | with_reducible apply seq_rt
  | with_reducible apply seq_nx
  | with_reducible apply ev_ret
  | with_reducible apply ev_asg2
  | with_reducible apply ev_append2
  | with_reducible apply ev_extend2
  | with_reducible apply ev_unp
  | with_reducible apply ev_aug2
  | with_reducible apply ev_fz
  | with_reducible apply ev_tup
  | with_reducible apply ev_lst
  | with_reducible apply ev_cons
  | with_reducible apply ev_op
  | with_reducible apply ev_op1
  | with_reducible apply ev_fn
  | with_reducible apply ev_frz
  | with_reducible apply ev_b
  | with_reducible apply ev_if
  | with_reducible apply ev_not
  | with_reducible apply ev_aCons
  | with_reducible apply ev_aLend
  | with_reducible apply ev_callD
  | with_reducible apply ev_call2
  | with_reducible exact add_str (by assumption)
  | assumption
  | exact two_le
  | dsimp only
  | exact rfl
  | exact small (by simp)
  | decide)))
theorem out_cv (c : Cs) (h : CsOk c) : outS c.itc (cvVs c.tst c.n.tc) = [] := by
  have hlow : lowS c.n.tc = true := h.nm.lo _ (by simp)
  have e : ∀ i ∈ c.itc.filter (fun i => decide (varS i ∈ cvVs c.tst c.n.tc)), i.1 = false := by
    intro i hi
    obtain ⟨h1, h2⟩ := List.mem_filter.mp hi
    have h2 := of_decide_eq_true h2
    obtain ⟨k, s⟩ := i
    cases k with
    | false => rfl
    | true =>
      exfalso
      unfold cvVs at h2
      split at h2
      · simp at h2
        exact low_app (c := 35) (t := s) (by omega) hlow h2.symm
      · simp at h2
  unfold outS
  rw [List.filter_eq_nil_iff.mpr (fun i hi => by rw [e i hi]; simp)]
  rfl
theorem shortC (c : Cs) (h : CsOk c) : shortI c.itc := by
  have := h.nm.l5
  have := h.nm.l6
  have := h.nm.l7
  intro i hi
  unfold Cs.itc cvI at hi
  split at hi
  · simp at hi
    rcases hi with rfl | rfl | rfl <;> simp <;> omega
  · simp at hi
    rcases hi with rfl | rfl <;> simp <;> omega
theorem itc_len (c : Cs) : c.itc.length ≤ 3 := by
  unfold Cs.itc cvI
  split <;> simp
theorem outcv_ok (c : Cs) (h : CsOk c) : ∃ as', c_outcomes_of [.fz (knD c.knc), .fz (S "cv")] = some (.fz (T [S "result.x"]), as') ∧ as'.length = 2 := by
  have hl := itc_len c
  obtain ⟨as', e1, e2⟩ := outcomes_ok c.knc (ndc c) h.k1 (lenc c) "cv" c.itc ["result.x"] ((c.cv).2.drop 2) (cvVs c.tst c.n.tc) (by simp [Cs.knc, Cs.cv, cvP, Cs.itc]) (shortC c h) (by omega) (by simp)
  rw [out_cv c h] at e1
  exact ⟨as', e1, e2⟩
theorem str0 {t : Str} (h : t.length ≤ 100) : dIx (.str ("@" ++ t)) (.int 0) = some (.str "@") := by
  have h1 : ("@" ++ t).length ≤ sizeLine := by
    rw [len_app]
    have : ("@" : Str).length = 1 := by decide
    exact small (by omega)
  have h2 : atI ("@" ++ t).cps.toList 0 = some 64 := by
    have e : ("@" ++ t).cps.toList = 64 :: t.cps.toList := by rw [app_list]; rfl
    rw [e]
    unfold atI ixN
    rw [if_pos (by omega), if_pos (by simp)]
    rfl
  unfold dIx
  dsimp only
  rw [decide_eq_true h1, h2]
  rfl
theorem len_at (s : Str) : ("@" ++ ("#" ++ s)).length = 2 + s.length := by
  rw [len_app, len_app]
  have : ("@" : Str).length = 1 := by decide
  have : ("#" : Str).length = 1 := by decide
  omega
theorem ask_ok {s : Str} (h : s.length ≤ 8) : c_ask_name [.fz (S "r."), .fz (S ("@" ++ ("#" ++ s)))] = some (.fz (S ("r." ++ ("@" ++ ("#" ++ s)))), [some (.fz (S "r.")), some (.fz (S ("@" ++ ("#" ++ s))))]) := by
  have h1 : ("#" ++ s).length ≤ 100 := by
    rw [len_app]
    have : ("#" : Str).length = 1 := by decide
    omega
  have h2 : dAddG (S "r.") (S ("@" ++ ("#" ++ s))) = some (S ("r." ++ ("@" ++ ("#" ++ s)))) := add_str (by
    rw [len_at]
    have : ("r." : Str).length = 2 := by decide
    omega)
  refine ev_run (ρ' := [some (.fz (S "r.")), some (.fz (S ("@" ++ ("#" ++ s))))]) (ev_ret (ev_fz (ev_mif (k := true) (ev_b (ev_op (ev_op (x := S ("@" ++ ("#" ++ s))) rfl rfl (str0 h1)) rfl (by kernel_rfl))) ?_))) rfl rfl rfl
  exact ev_op rfl rfl h2
def qS (s : Str) : Str := "r." ++ ("@" ++ ("#" ++ s))
theorem qS_eq (s : Str) : "r." ++ ("@#" ++ s) = qS s := by
  unfold qS
  have : ("@#" : Str) = "@" ++ "#" := by decide
  rw [this, app_assoc]
def fnd (c : Cs) : List Fm := vr ("r.." ++ "result.x") :: (if c.log = 1 then (if c.sw then [vr (qS c.n.wc), vr (qS c.n.ac)] else [vr (qS c.n.ac), vr (qS c.n.wc)]) else [vr (qS c.n.ac)])
def qrs (c : Cs) : Qrs := (c.N1.map fun n : Str => ("r." : Str) ++ n).zip (fnd c)
theorem zipP_qs : ∀ (ns : List Str) (fs : List Fm), zipP (ns.map .str) (fs.map fD) = (ns.zip fs).map qD
  | [], fs => by cases fs <;> rfl
  | n :: ns, [] => rfl
  | n :: ns, f :: fs => by
    simp only [List.map_cons, List.zip_cons_cons]
    rw [← zipP_qs ns fs]
    rfl
abbrev rpB : MS := (sSeq (sAsg 10 (oFz (mOp2 dAddG (mC (D.str (Str.ofString "#"))) (mOp2 dIx (mVar 6) (mVar 9)))))
                          (sAppend 8
                            (oCallD c_variable
                              (dsCons
                                (mFrz
                                  (oCallD c_ask_name
                                    (dsCons (mC (D.str (Str.ofString "r.")))
                                      (dsCons
                                        (mIf (bOf (mOp2 dIn (mVar 10) (mVar 7))) (mVar 10)
                                          (mOp2 dAddG (mC (D.str (Str.ofString "@"))) (mVar 10)))
                                        dsNil))))
                                dsNil))))
theorem not_res {s : Str} : ("#" ++ s : Str) ≠ "result.x" := by
  intro e
  have : ("#" ++ s).cps.toList = ("result.x" : Str).cps.toList := by rw [e]
  rw [app_list] at this
  have h2 : ("#" : Str).cps.toList = [35] := by decide
  have h3 : ("result.x" : Str).cps.toList = [114, 101, 115, 117, 108, 116, 46, 120] := by decide
  rw [h2, h3] at this
  simp at this
theorem rp_step (s0 s1 s2 s3 s4 s5 s10 s11 s12 s13 : Option O) (arr : List D) (fs : List D) (p : Int) (s : Str) (hs : s.length ≤ 8) (ha : dIx (.lst arr) (.int p) = some (S s)) (hl : fs.length < 100) :
    rpB [s0, s1, s2, s3, s4, s5, some (.fz (.lst arr)), some (.fz (T [S "result.x"])), some (.lst (fs.map .fz)), some (.fz (.int p)), s10, s11, s12, s13] =
      some (.nx, [s0, s1, s2, s3, s4, s5, some (.fz (.lst arr)), some (.fz (T [S "result.x"])), some (.lst ((fs ++ [fD (vr (qS s))]).map .fz)), some (.fz (.int p)), some (.fz (S ("#" ++ s))), s11, s12, s13]) := by
  have hz := size1000
  have h1 : dAddG (S (Str.ofString "#")) (S s) = some (S ("#" ++ s)) := addH (by omega)
  have h2 : dIn (S ("#" ++ s)) (T [S "result.x"]) = some (.bl false) := by
    have := in_tup ("#" ++ s) ["result.x"]
    rw [decide_eq_false (by simpa using not_res)] at this
    exact this
  have h3 : dAddG (S (Str.ofString "@")) (S ("#" ++ s)) = some (S ("@" ++ ("#" ++ s))) := add_str (by
    rw [len_app]
    have : ("#" : Str).length = 1 := by decide
    have : (Str.ofString "@").length = 1 := by decide
    omega)
  refine seq_nx (ρ1 := [s0, s1, s2, s3, s4, s5, some (.fz (.lst arr)), some (.fz (T [S "result.x"])), some (.lst (fs.map .fz)), some (.fz (.int p)), some (.fz (S ("#" ++ s))), s11, s12, s13]) (ev_asg2 (ev_fz (ev_op (y := S s) rfl (ev_op (x := .lst arr) (y := .int p) rfl rfl ha) h1)) rfl rfl) ?_
  refine ev_append2 (ρ1 := [s0, s1, s2, s3, s4, s5, some (.fz (.lst arr)), some (.fz (T [S "result.x"])), some (.lst (fs.map .fz)), some (.fz (.int p)), some (.fz (S ("#" ++ s))), s11, s12, s13]) (o := .fz (fD (vr (qS s)))) rfl ?_ rfl (by simp; omega) (by simp)
  refine ev_callD (ds := [S (qS s)]) (ev_one (ev_frz (ev_callD (ds := [S "r.", S ("@" ++ ("#" ++ s))]) (ev_cons rfl (ev_one (ev_mif (k := false) (ev_b (ev_op (x := S ("#" ++ s)) (y := T [S "result.x"]) rfl rfl h2)) ?_))) (ask_ok hs) rfl) rfl)) (var1_ok _) rfl
  exact ev_op (y := S ("#" ++ s)) rfl rfl h3
theorem it1_len (c : Cs) : c.it1.length ≤ 3 := by
  unfold Cs.it1 lgI
  split
  · split <;> simp
  · simp
theorem short1 (c : Cs) (h : CsOk c) (hk : c.k1.length ≤ 8) : shortI (c.it1 ++ [(false, c.k1)]) := by
  have := h.nm.l2
  have := h.nm.l3
  have := h.nm.l4
  intro i hi
  unfold Cs.it1 lgI at hi
  split at hi
  · split at hi
    · simp at hi
      rcases hi with rfl | rfl | rfl | rfl <;> simp <;> omega
    · simp at hi
      rcases hi with rfl | rfl | rfl | rfl <;> simp <;> omega
  · simp at hi
    rcases hi with rfl | rfl | rfl <;> simp <;> omega
theorem ins1 (c : Cs) (h : CsOk c) (hk : c.k1.length ≤ 8) : ∃ as', c_inputs_of [.fz (knD c.knc), .fz (S "putr")] = some (.fz (T ((c.it1 ++ [(false, c.k1)]).map fun i => S ("@" ++ varS i))), as') ∧ as'.length = 2 := by
  have := it1_len c
  refine ins_ok c.knc (ndc c) (lenc c) "putr" (c.it1 ++ [(false, c.k1)]) ((put1 c).1.2.drop 1) (put1 c).2 ?_ (short1 c h hk) (by simp; omega)
  exact put1_in c h
theorem cut1 (c : Cs) (h : CsOk c) : dSlice (T ((c.it1 ++ [(false, c.k1)]).map fun i => S ("@" ++ varS i))) none (some (1 + (1 + c.log))) = some (T (c.N1.map S)) := by
  unfold Cs.N1 Cs.it1
  rcases h.lg with ⟨hl, hs⟩ | ⟨hl, hs⟩ | ⟨hl, hs⟩ <;> rw [hl, hs] <;> rfl
theorem state1 (c : Cs) (h : CsOk c) (hk : c.k1.length ≤ 8) : ∃ as', c_state_names [.fz (knD c.knc), .fz (partD "r" c.log c.sh c.many)] = some (.fz (T (c.N1.map S)), as') ∧ as'.length = 2 := by
  obtain ⟨as1, e1, l1⟩ := ins1 c h hk
  let pt := partD "r" c.log c.sh c.many
  have e2 : c_state_inputs [.fz (knD c.knc), .fz pt, .fz (S "putr")] = some (.fz (T (c.N1.map S)), [some (.fz (knD c.knc)), some (.fz pt), some (.fz (S "putr"))]) :=
    ev_run (ρ' := [some (.fz (knD c.knc)), some (.fz pt), some (.fz (S "putr"))]) (ev_ret (ev_fz (ev_slice (ev_frz (ev_callD (ds := [knD c.knc, S "putr"]) (ev_cons rfl (ev_one rfl)) e1 l1) rfl) rfl (ev_some (ev_frz (ev_callD (ds := [pt]) (ev_one rfl) (sizeP _ _ _ _) rfl) rfl)) (cut1 c h)))) rfl rfl rfl
  exact ⟨_, ev_run (ρ' := [some (.fz (knD c.knc)), some (.fz pt)]) (ev_ret (ev_callD (ds := [knD c.knc, pt, S "putr"]) (ev_cons rfl (ev_cons rfl (ev_one (ev_op (x := namesD "r" c.many) (ev_op (x := pt) rfl rfl (part3 _ _ _ _)) rfl (part30 _ _ h.mn))))) e2 rfl)) rfl rfl rfl, rfl⟩
theorem N1_len (c : Cs) : c.N1.length ≤ 3 := by
  unfold Cs.N1
  rw [List.length_map]
  exact it1_len c
theorem N1_short (c : Cs) (h : CsOk c) : ∀ n ∈ c.N1, n.length ≤ 10 := by
  have h2 := h.nm.l2
  have h3 := h.nm.l3
  have h4 := h.nm.l4
  intro n hn
  unfold Cs.N1 at hn
  obtain ⟨i, hi, rfl⟩ := List.mem_map.mp hn
  have : i.2.length ≤ 8 := by
    unfold Cs.it1 lgI at hi
    split at hi
    · split at hi
      · simp at hi
        rcases hi with rfl | rfl | rfl <;> simp <;> omega
      · simp at hi
        rcases hi with rfl | rfl | rfl <;> simp <;> omega
    · simp at hi
      rcases hi with rfl | rfl <;> simp <;> omega
  rw [len_app]
  have := var_len i
  have : ("@" : Str).length = 1 := by decide
  omega
theorem dotN {n : Str} (h : n.length ≤ 10) : dAddG (S "r.") (S n) = some (S ("r." ++ n)) := add_str (by
  have : ("r." : Str).length = 2 := by decide
  omega)
theorem arrs (c : Cs) (h : CsOk c) (ρ : Rho) (i : Nat) (hi : ∀ d, (gSet i) d (wipeR ρ [i]) = some (wipeR ρ [i] |>.set i (some (.fz d)))) : True := trivial
theorem ev_lz {f : MDs} {ρ ρ1 : Rho} {xs ys : List D} (e : f ρ = some ([.lst xs, .lst ys], ρ1)) (h : xs.length < 1000) : mLZ f ρ = some (.lst (zipP xs ys), ρ1) := by
  unfold mLZ; rw [e]; dsimp only; rw [decide_eq_true (small h)]
theorem pairs_ok (c : Cs) (h : CsOk c) (hk : c.k1.length ≤ 8) (I0 I1 : D) : ∃ as', c_right_pairs [.fz (c.pair I0 I1), .fz (cvD c)] = some (.fz (.lst ((qrs c).map qD)), as') ∧ as'.length = 2 := by
  let P : D := c.pair I0 I1
  let pl : D := T ((cvPl c.log c.sw).map .int)
  obtain ⟨as1, e1, l1⟩ := outcv_ok c h
  obtain ⟨as2, e2, l2⟩ := state1 c h hk
  have hl3 := N1_len c
  have hsh := N1_short c h
  have hv := h.nm.l6
  have hv7 := h.nm.l7
  have base : ∀ s9 s10 : Option O, ∃ X : Rho, X = [some (.fz P), some (.fz (cvD c)), some (.fz (knD c.knc)), some (.fz (S "cv")), some (.fz pl), some (.fz (prD c.cv)), some (.fz (.lst (c.arrc.map S))), some (.fz (T [S "result.x"])), some (.lst ((fnd c).map fun f => .fz (fD f))), s9, s10, none, none, none] := fun _ _ => ⟨_, rfl⟩
  obtain ⟨s9, s10, hfor⟩ : ∃ s9 s10, sFor (iSeq (mVar 4)) (gSet 9) rpB [some (.fz P), some (.fz (cvD c)), some (.fz (knD c.knc)), some (.fz (S "cv")), some (.fz pl), some (.fz (prD c.cv)), some (.fz (.lst (c.arrc.map S))), some (.fz (T [S "result.x"])), some (.lst ([fD (vr ("r.." ++ "result.x"))].map .fz)), none, none, none, none, none] =
      some (.nx, [some (.fz P), some (.fz (cvD c)), some (.fz (knD c.knc)), some (.fz (S "cv")), some (.fz pl), some (.fz (prD c.cv)), some (.fz (.lst (c.arrc.map S))), some (.fz (T [S "result.x"])), some (.lst (((fnd c).map fD).map .fz)), s9, s10, none, none, none]) := by
    rcases h.lg with ⟨hl, hs⟩ | ⟨hl, hs⟩ | ⟨hl, hs⟩
    · simp only [pl, cvPl, fnd, Cs.arrc, hl, hs]
      exact ⟨_, _, ev_for rfl (ev_for1 rfl (rp_step _ _ _ _ _ _ _ _ _ _ _ _ 0 c.n.ac hv rfl (by simp)) rfl)⟩
    · simp only [pl, cvPl, fnd, Cs.arrc, hl, hs]
      exact ⟨_, _, ev_for rfl (ev_for1 rfl (rp_step _ _ _ _ _ _ _ _ _ _ _ _ 0 c.n.ac hv rfl (by simp)) (ev_for1 rfl (rp_step _ _ _ _ _ _ _ _ _ _ _ _ 1 c.n.wc hv7 rfl (by simp)) rfl))⟩
    · simp only [pl, cvPl, fnd, Cs.arrc, hl, hs]
      exact ⟨_, _, ev_for rfl (ev_for1 rfl (rp_step _ _ _ _ _ _ _ _ _ _ _ _ 1 c.n.wc hv7 rfl (by simp)) (ev_for1 rfl (rp_step _ _ _ _ _ _ _ _ _ _ _ _ 0 c.n.ac hv rfl (by simp)) rfl))⟩
  have hcor : ∀ ρ : Rho, ρ[0]? = some (some (.fz P)) → mOp2 dIx (mOp1 (dAttr ok_cores (Str.ofString "cores")) (mVar 0)) (mC (D.int 1)) ρ = some (knD c.knc, ρ) := fun ρ hρ => by
    have : mVar 0 ρ = some (P, ρ) := by unfold mVar; rw [hρ]
    exact ev_op (x := c.cores) (ev_op1 this (by kernel_rfl)) rfl (by kernel_rfl)
  have hpar : ∀ ρ : Rho, ρ[0]? = some (some (.fz P)) → mOp2 dIx (mOp1 (dAttr ok_parts (Str.ofString "parts")) (mVar 0)) (mC (D.int 1)) ρ = some (partD "r" c.log c.sh c.many, ρ) := fun ρ hρ => by
    have : mVar 0 ρ = some (P, ρ) := by unfold mVar; rw [hρ]
    exact ev_op (x := c.parts) (ev_op1 this (by kernel_rfl)) rfl (by kernel_rfl)
  refine ⟨_, ev_run (ρ' := [some (.fz P), some (.fz (cvD c)), some (.fz (knD c.knc)), some (.fz (S "cv")), some (.fz pl), some (.fz (prD c.cv)), some (.fz (.lst (c.arrc.map S))), some (.fz (T [S "result.x"])), some (.fz (.lst ((fnd c).map fD))), s9, s10, none, none, none]) ?_ rfl rfl rfl, rfl⟩
  unfold der_right_pairs
  dsimp only
  refine seq_nx (ev_asg2 (ev_fz (hcor _ rfl)) rfl rfl) ?_
  refine seq_nx (ev_unp (d := cvD c) (ρ2 := [some (.fz P), some (.fz (cvD c)), some (.fz (knD c.knc)), some (.fz (S "cv")), some (.fz pl), none, none, none, none, none, none, none, none, none]) rfl rfl) ?_
  refine seq_nx (ev_asg2 (ev_fz (ev_frz (ev_callD (ds := [knD c.knc, S "cv"]) (ev_cons rfl (ev_one rfl)) (namedc c h) rfl) rfl)) rfl rfl) ?_
  refine seq_nx (ρ1 := [some (.fz P), some (.fz (cvD c)), some (.fz (knD c.knc)), some (.fz (S "cv")), some (.fz pl), some (.fz (prD c.cv)), some (.fz (.lst (c.arrc.map S))), none, none, none, none, none, none, none]) ?_ ?_
  · have hh : dIx (prD c.cv) (.int 1) = some (T (c.itc.map itD)) := cvit c
    rcases h.lg with ⟨hl, hs⟩ | ⟨hl, hs⟩ | ⟨hl, hs⟩
    · have e3 : c.itc = [(false, c.n.xc), (true, c.n.ac)] := by simp [Cs.itc, cvI, hl]
      have e4 : c.arrc = [c.n.ac] := by simp [Cs.arrc, hl]
      rw [e3] at hh
      rw [e4]
      refine ev_asg2 (o := .fz (.lst [S c.n.ac])) (ev_fz (ev_frz (ev_comp (ρ2 := [some (.fz P), some (.fz (cvD c)), some (.fz (knD c.knc)), some (.fz (S "cv")), some (.fz pl), some (.fz (prD c.cv)), none, none, none, none, none, none, none, none]) (ds := [itD (false, c.n.xc), itD (true, c.n.ac)]) (xs := [S c.n.ac]) (ev_seqT (ev_op (x := prD c.cv) rfl rfl hh)) rfl (by kernel_rfl)) rfl)) rfl rfl
    all_goals
      have e3 : c.itc = [(false, c.n.xc), (true, c.n.ac), (true, c.n.wc)] := by simp [Cs.itc, cvI, hl]
      have e4 : c.arrc = [c.n.ac, c.n.wc] := by simp [Cs.arrc, hl]
      rw [e3] at hh
      rw [e4]
      refine ev_asg2 (o := .fz (.lst [S c.n.ac, S c.n.wc])) (ev_fz (ev_frz (ev_comp (ρ2 := [some (.fz P), some (.fz (cvD c)), some (.fz (knD c.knc)), some (.fz (S "cv")), some (.fz pl), some (.fz (prD c.cv)), none, none, none, none, none, none, none, none]) (ds := [itD (false, c.n.xc), itD (true, c.n.ac), itD (true, c.n.wc)]) (xs := [S c.n.ac, S c.n.wc]) (ev_seqT (ev_op (x := prD c.cv) rfl rfl hh)) rfl (by kernel_rfl)) rfl)) rfl rfl
  refine seq_nx (ev_asg2 (ev_fz (ev_frz (ev_callD (ds := [knD c.knc, S "cv"]) (ev_cons rfl (ev_one rfl)) e1 l1) rfl)) rfl rfl) ?_
  refine seq_nx (ρ1 := [some (.fz P), some (.fz (cvD c)), some (.fz (knD c.knc)), some (.fz (S "cv")), some (.fz pl), some (.fz (prD c.cv)), some (.fz (.lst (c.arrc.map S))), some (.fz (T [S "result.x"])), some (.lst ([fD (vr ("r.." ++ "result.x"))].map .fz)), none, none, none, none, none]) (by kernel_rfl) ?_
  refine seq_nx hfor ?_
  have hst := ev_callD (fn := c_state_names) (ds := [knD c.knc, partD "r" c.log c.sh c.many]) (f := dsCons (mVar 2) (dsCons (mOp2 dIx (mOp1 (dAttr ok_parts (Str.ofString "parts")) (mVar 0)) (mC (D.int 1))) dsNil)) (ρ := [some (.fz P), some (.fz (cvD c)), some (.fz (knD c.knc)), some (.fz (S "cv")), some (.fz pl), some (.fz (prD c.cv)), some (.fz (.lst (c.arrc.map S))), some (.fz (T [S "result.x"])), some (.lst (((fnd c).map fD).map .fz)), s9, s10, none, none, none]) (ev_cons rfl (ev_one (hpar _ rfl))) e2 l2
  have hco := comp_all (gi := iSeq (mFrz (oCallD c_state_names (dsCons (mVar 2) (dsCons (mOp2 dIx (mOp1 (dAttr ok_parts (Str.ofString "parts")) (mVar 0)) (mC (D.int 1))) dsNil))))) (vs := [13]) (b := gSet 13) (g := mOp2 dAddG (mC (D.str (Str.ofString "r."))) (mVar 13)) S (fun n => S ("r." ++ n)) c.N1 (ev_seqT (ev_frz hst rfl)) rfl (by omega) (fun n hn =>
    ⟨[some (.fz P), some (.fz (cvD c)), some (.fz (knD c.knc)), some (.fz (S "cv")), some (.fz pl), some (.fz (prD c.cv)), some (.fz (.lst (c.arrc.map S))), some (.fz (T [S "result.x"])), some (.lst (((fnd c).map fD).map .fz)), s9, s10, none, none, some (.fz (S n))], _, rfl, ev_op (x := S "r.") (y := S n) rfl rfl (dotN (hsh n hn)), rfl⟩) rfl
  refine ev_ret (ev_fz ?_)
  have ht : mTake 8 [some (.fz P), some (.fz (cvD c)), some (.fz (knD c.knc)), some (.fz (S "cv")), some (.fz pl), some (.fz (prD c.cv)), some (.fz (.lst (c.arrc.map S))), some (.fz (T [S "result.x"])), some (.lst (((fnd c).map fD).map .fz)), s9, s10, none, none, none] =
      some (.lst ((fnd c).map fD), [some (.fz P), some (.fz (cvD c)), some (.fz (knD c.knc)), some (.fz (S "cv")), some (.fz pl), some (.fz (prD c.cv)), some (.fz (.lst (c.arrc.map S))), some (.fz (T [S "result.x"])), some (.fz (.lst ((fnd c).map fD))), s9, s10, none, none, none]) := by
    simp only [mTake, List.getElem?_cons_succ, List.getElem?_cons_zero, frz_lst]
    rfl
  have hq : zipP (c.N1.map fun n => S ("r." ++ n)) ((fnd c).map fD) = (qrs c).map qD := by
    have := zipP_qs (c.N1.map fun n : Str => ("r." : Str) ++ n) (fnd c)
    rw [List.map_map] at this
    exact this
  rw [← hq]
  exact ev_lz (ev_cons (ev_frz hco (frz_lst _)) (ev_one ht)) (by simp; omega)
end Hd
set_option Elab.async false
set_option linter.all false
set_option maxRecDepth 100000
set_option maxHeartbeats 4000000
set_option autoImplicit false
/-! P36v: exchange_claim. -/
namespace Hd
open PySem PySem.Spec L2 PI
local macro_rules | `(tactic| get_elem_tactic_trivial) => `(tactic| (repeat' (first
  | with_reducible assumption
  | with_reducible apply seq_rt
  | with_reducible apply seq_nx
  | with_reducible apply ev_ret
  | with_reducible apply ev_asg2
  | with_reducible apply ev_append2
  | with_reducible apply ev_extend2
  | with_reducible apply ev_unp
  | with_reducible apply ev_aug2
  | with_reducible apply ev_fz
  | with_reducible apply ev_tup
  | with_reducible apply ev_lst
  | with_reducible apply ev_cons
  | with_reducible apply ev_op
  | with_reducible apply ev_op1
  | with_reducible apply ev_fn
  | with_reducible apply ev_frz
  | with_reducible apply ev_b
  | with_reducible apply ev_if
  | with_reducible apply ev_not
  | with_reducible apply ev_aCons
  | with_reducible apply ev_aLend
  | with_reducible apply ev_callD
  | with_reducible apply ev_call2
  | with_reducible exact add_str (by assumption)
  | assumption
  | exact two_le
  | dsimp only
  | exact rfl
  | exact small (by simp)
  | decide)))
theorem app_inj {a b c : Str} (h : a ++ b = a ++ c) : b = c := by
  have : (a ++ b).cps.toList = (a ++ c).cps.toList := by rw [h]
  rw [app_list, app_list] at this
  exact str_ext (List.append_cancel_left this)
theorem N1_nodup (c : Cs) (h : CsOk c) : c.N1.Nodup := by
  have hd := h.nm.dr
  have lx : lowS c.n.x1 = true := h.nm.lo _ (by simp)
  have n1 : ∀ s : Str, c.n.x1 ≠ "#" ++ s := fun s => low_app (c := 35) (by omega) lx
  simp only [List.nodup_cons, List.mem_cons, List.not_mem_nil, or_false, not_or, List.nodup_nil, not_false_eq_true, and_true] at hd
  obtain ⟨⟨h1, h2⟩, h3⟩ := hd
  unfold Cs.N1 Cs.it1 lgI
  have e0 : varS (false, c.n.x1) = c.n.x1 := rfl
  have e1 : varS (true, c.n.a1) = "#" ++ c.n.a1 := rfl
  have e2 : varS (true, c.n.w1) = "#" ++ c.n.w1 := rfl
  have k1 : "@" ++ c.n.x1 ≠ "@" ++ ("#" ++ c.n.a1) := fun e => n1 _ (app_inj e)
  have k2 : "@" ++ c.n.x1 ≠ "@" ++ ("#" ++ c.n.w1) := fun e => n1 _ (app_inj e)
  have k3 : "@" ++ ("#" ++ c.n.a1) ≠ "@" ++ ("#" ++ c.n.w1) := fun e => h3 (app_inj (app_inj e))
  split
  · split
    · simp [e0, e1, e2, k1, k2, k3.symm]
    · simp [e0, e1, e2, k1, k2, k3]
  · simp [e0, e1, e2, k1]
theorem fnd_len (c : Cs) (h : CsOk c) : (fnd c).length = c.N1.length := by
  unfold fnd Cs.N1 Cs.it1 lgI
  rcases h.lg with ⟨hl, hs⟩ | ⟨hl, hs⟩ | ⟨hl, hs⟩ <;> rw [hl, hs] <;> rfl
theorem qrs_names (c : Cs) (h : CsOk c) : (qrs c).map (·.1) = c.N1.map fun n : Str => ("r." : Str) ++ n := by
  unfold qrs
  exact List.map_fst_zip (by rw [List.length_map, fnd_len c h]; exact Nat.le_refl _)
theorem nodup_map_inj {α β : Type} {f : α → β} (hf : ∀ a b, f a = f b → a = b) : ∀ {l : List α}, l.Nodup → (l.map f).Nodup
  | [], _ => by simp
  | x :: l, h => by
    simp only [List.nodup_cons, List.map_cons] at h ⊢
    refine ⟨fun z => ?_, nodup_map_inj hf h.2⟩
    obtain ⟨y, hy, e⟩ := List.mem_map.mp z
    rw [hf _ _ e] at hy
    exact h.1 hy
theorem qrs_nodup (c : Cs) (h : CsOk c) : ((qrs c).map (·.1)).Nodup := by
  rw [qrs_names c h]
  exact nodup_map_inj (fun a b e => app_inj e) (N1_nodup c h)
theorem qrs_len (c : Cs) : (qrs c).length < 1000 := by
  have := N1_len c
  unfold qrs
  rw [List.length_zip, List.length_map]
  omega
theorem fnd_one (c : Cs) : ∀ f ∈ fnd c, f.2.length = 1 := by
  intro f hf
  unfold fnd at hf
  split at hf
  · split at hf
    · simp at hf
      rcases hf with rfl | rfl | rfl <;> rfl
    · simp at hf
      rcases hf with rfl | rfl | rfl <;> rfl
  · simp at hf
    rcases hf with rfl | rfl <;> rfl
theorem look_mem : ∀ (qs : Qrs) (n : Str) (g : Fm), lookF qs n = some g → g ∈ qs.map (·.2)
  | [], _, _, h => by simp [lookF] at h
  | q :: qs, n, g, h => by
    unfold lookF at h
    split at h
    · cases h; simp
    · exact List.mem_cons_of_mem _ (look_mem qs n g h)
theorem imgR_len (c : Cs) : ∀ ps : Prs, (imgR (qrs c) ps).length = ps.length
  | [] => rfl
  | p :: ps => by
    have ih := imgR_len c ps
    have : (img1 (qrs c) p).length = 1 := by
      unfold img1
      cases e : lookF (qrs c) p.1 with
      | none => rfl
      | some g =>
        have hm := look_mem _ _ _ e
        have : g ∈ fnd c := by
          unfold qrs at hm
          obtain ⟨q, hq, rfl⟩ := List.mem_map.mp hm
          exact (List.of_mem_zip hq).2
        show (scaleP p.2 g.2).length = 1
        unfold scaleP
        rw [List.length_map]
        exact fnd_one c g this
    simp [imgR, ih, this]
    omega
structure GoodF (f : Fm) : Prop where
  ok : okP f.2
  ln : lenP 100 f.2
  bd : bndP 2 f.2
  fw : f.2.length ≤ 20
def markF (mk : Str) (f : Fm) : Fm := (f.1, markP mk f.2)
theorem GoodF.sided {f : Fm} (h : GoodF f) (mk : Str) (hm : mk.length ≤ 10) : ∃ as', c_sided [.fz (.str mk), .fz (fD f)] = some (.fz (fD (markF mk f)), as') ∧ as'.length = 2 :=
  sided_ok mk f (by omega) h.ok (fun p hp => Nat.le_trans (h.ln p hp) (by omega)) (by have := h.fw; omega)
theorem GoodF.marked {f : Fm} (h : GoodF f) (mk : Str) (hm : mk.length ≤ 10) : ∃ as', c_u_law_marked [.fz (.str mk), .fz (fD f)] = some (.fz (fD (markF mk f)), as') ∧ as'.length = 2 :=
  marked_ok mk f (by omega) (fun p hp => Nat.le_trans (h.ln p hp) (by omega)) (by have := h.fw; omega)
theorem GoodF.image {f : Fm} (h : GoodF f) (c : Cs) (hc : CsOk c) : ∃ as', c_image [.fz (fD f), .fz (.lst ((qrs c).map qD))] = some (.fz (fD (imgF (qrs c) f)), as') ∧ as'.length = 2 :=
  image_ok f (qrs c) (qrs_nodup c hc) (qrs_len c) (fun p hp => by have := h.bd p hp; omega) (by rw [imgR_len]; have := h.fw; omega)
theorem mark_bnd {mk : Str} {f : Fm} (h : bndP 2 f.2) : bndP 2 (markF mk f).2 := by
  intro p hp
  obtain ⟨q, hq, rfl⟩ := List.mem_map.mp hp
  exact h q hq
theorem imageM (f : Fm) (h : GoodF f) (mk : Str) (c : Cs) (hc : CsOk c) : ∃ as', c_image [.fz (fD (markF mk f)), .fz (.lst ((qrs c).map qD))] = some (.fz (fD (imgF (qrs c) (markF mk f))), as') ∧ as'.length = 2 :=
  image_ok (markF mk f) (qrs c) (qrs_nodup c hc) (qrs_len c) (fun p hp => by have := mark_bnd h.bd p hp; omega) (by rw [imgR_len]; have := h.fw; simp [markF, mark_len]; omega)
def kpS (c : Cs) (k : Nat) : Str := if c.log = 1 then (if c.sw then (match k with | 0 => c.n.wc | _ => c.n.ac) else (match k with | 0 => c.n.ac | _ => c.n.wc)) else c.n.ac
def keepDD (c : Cs) (k : Nat) : D := T [S c.n.a0, S (kpS c k)]
def arD (k : Nat) : D := T [.int 0, .int (k : Int)]
def claimD (c : Cs) (F0 F1 R : List Fm) (ar : List Nat) : D :=
  T [S ".", S "cv", T ((giv0 c ++ F0.map (markF "l.")).map fD), T [same0 c], T (((R ++ F1.map (markF "r.")).map (imgF (qrs c))).map fD), T (ar.map (keepDD c))]
theorem statearr (c : Cs) (h : CsOk c) (I0 I1 : D) : c_Pair_state_arrays [.fz (c.pair I0 I1), .fz (.int 0)] = some (.lst [.fz (S c.n.a0)], [some (.fz (c.pair I0 I1)), some (.fz (.int 0))]) := by
  let P : D := c.pair I0 I1
  let pt : D := partD "l" 0 0 c.many
  let its : D := T ((c.it0 ++ [(false, c.k0)]).map itD)
  have hv : ∀ ρ : Rho, ρ[0]? = some (some (.fz P)) → mVar 0 ρ = some (P, ρ) := fun ρ hρ => by unfold mVar; rw [hρ]
  refine ev_run (ρ' := [some (.fz P), some (.fz (.int 0)), some (.fz pt), some (.fz its), none]) ?_ rfl rfl rfl
  unfold der_Pair_state_arrays
  dsimp only
  refine seq_nx (ρ1 := [some (.fz P), some (.fz (.int 0)), some (.fz pt), none, none]) (by kernel_rfl) ?_
  refine seq_nx (ev_asg2 (o := .fz its) (ev_fz (ev_op (ev_frz (ev_callD (ds := [knD c.kn0, S "putl"]) (ev_cons (ev_op (x := c.cores) (y := .int 0) (ev_op1 (hv _ rfl) (by kernel_rfl)) rfl (by kernel_rfl)) (ev_one (ev_op (x := namesD "l" c.many) (ev_op (x := pt) rfl rfl (part3 _ _ _ _)) rfl (part30 _ _ h.mn)))) (named0 c h) rfl) rfl) rfl (put0_it c))) rfl rfl) ?_
  refine ev_ret ?_
  refine ev_comp (ρ1 := [some (.fz P), some (.fz (.int 0)), some (.fz pt), some (.fz its), none]) (ρ2 := [some (.fz P), some (.fz (.int 0)), some (.fz pt), some (.fz its), none]) (ds := [itD (true, c.n.a0)]) (xs := [S c.n.a0]) (ev_seqT (ev_slice (ρ1 := [some (.fz P), some (.fz (.int 0)), some (.fz pt), some (.fz its), none]) (ρ2 := [some (.fz P), some (.fz (.int 0)), some (.fz pt), some (.fz its), none]) (x := its) rfl (ev_some (i := 1) (by kernel_rfl)) (ev_some (ev_frz (ev_callD (ds := [pt]) (ev_one rfl) (sizeP _ _ _ _) rfl) rfl)) rfl)) rfl (by kernel_rfl)
theorem imms_fD : ∀ fs : List Fm, D.imms (fs.map fD) = true
  | [] => rfl
  | f :: fs => by
    have h1 : ∀ ps : Prs, D.imms (ps.map pD) = true := by
      intro ps
      induction ps with
      | nil => rfl
      | cons p ps ih => simp [D.imms, pD, D.imm, ih]
    simp [D.imms, fD, D.imm, h1, imms_fD fs]
theorem ev_view {ρ : Rho} {i : Nat} {o : O} {d : D} (h : ρ[i]? = some (some o)) (hd : o.frz = d) : mVar i (viewAll ρ) = some (d, viewAll ρ) := by
  unfold mVar viewAll
  rw [List.getElem?_map, h, ← hd]
  rfl
theorem ev_meth {c : Nat} {m : Str} {fn : Fn} {g : MD} {f : MDs} {ρ ρ0 ρ1 : Rho} {ns : List Str} {ds0 ds : List D} {r : O} {as' : Rho} (e : g ρ = some (.obj c ns ds0, ρ0)) (e2 : f ρ0 = some (ds, ρ1)) (ef : fn ((D.obj c ns ds0 :: ds).map .fz) = some (r, as')) (hl : as'.length = ds.length + 1) (hm : ns.contains m = false) : oMethD c m fn g f ρ = some (r, ρ1) := by
  unfold oMethD; rw [e]; dsimp only; rw [e2]; dsimp only; rw [ef]; dsimp only; rw [decide_eq_true hl, decide_eq_true (rfl : c = c), hm]; rfl
theorem itc0 (c : Cs) (hl : c.log = 0) : c.itc = [(false, c.n.xc), (true, c.n.ac)] := by simp [Cs.itc, cvI, hl]
theorem itc1 (c : Cs) (hl : c.log = 1) : c.itc = [(false, c.n.xc), (true, c.n.ac), (true, c.n.wc)] := by simp [Cs.itc, cvI, hl]
theorem arr0 (c : Cs) (hl : c.log = 0) : c.arrc = [c.n.ac] := by simp [Cs.arrc, hl]
theorem arr1 (c : Cs) (hl : c.log = 1) : c.arrc = [c.n.ac, c.n.wc] := by simp [Cs.arrc, hl]
theorem theirsE (c : Cs) (h : CsOk c) {g : MD} {ρ : Rho} (hg : g ρ = some (knD c.knc, ρ)) (hv : ρ[1]? = some (some (.fz (cvD c)))) : mOp2 dIx (mFrz (oCallD c_proc_named (dsCons g (dsCons (mOp2 dIx (mVar 1) (mC (D.int 0))) dsNil)))) (mC (D.int 1)) ρ = some (T (c.itc.map itD), ρ) := by
  have : mVar 1 ρ = some (cvD c, ρ) := by unfold mVar; rw [hv]
  exact ev_op (ev_frz (ev_callD (ds := [knD c.knc, S "cv"]) (ev_cons hg (ev_one (ev_op this rfl rfl))) (namedc c h) rfl) rfl) rfl (cvit c)
theorem keep_at (c : Cs) (h : CsOk c) (k : Nat) (hk : k < (1 + c.log).toNat) : ∃ p, dIx (T ((cvPl c.log c.sw).map .int)) (.int (k : Int)) = some (.int p) ∧ dIx (.lst (c.arrc.map S)) (.int p) = some (S (kpS c k)) := by
  unfold cvPl Cs.arrc kpS
  rcases h.lg with ⟨hl, hs⟩ | ⟨hl, hs⟩ | ⟨hl, hs⟩ <;> rw [hl] at hk ⊢ <;> rw [hs]
  · match k, hk with
    | 0, _ => exact ⟨0, rfl, rfl⟩
  · match k, hk with
    | 0, _ => exact ⟨0, rfl, rfl⟩
    | 1, _ => exact ⟨1, rfl, rfl⟩
  · match k, hk with
    | 0, _ => exact ⟨1, rfl, rfl⟩
    | 1, _ => exact ⟨0, rfl, rfl⟩
theorem exchange_ok (c : Cs) (h : CsOk c) (hk : c.k1.length ≤ 8) (F0 F1 R : List Fm) (ar : List Nat) (h0 : ∀ f ∈ F0, GoodF f) (h1 : ∀ f ∈ F1, GoodF f) (hR : ∀ f ∈ R, GoodF f) (l0 : F0.length ≤ 10) (l1 : F1.length ≤ 10) (lR : R.length ≤ 10) (har : ∀ k ∈ ar, k < (1 + c.log).toNat) (lar : ar.length ≤ 10) :
    ∃ as', c_exchange_claim [.fz (c.pair (T (F0.map fD)) (T (F1.map fD))), .fz (cvD c), .fz (T [T (R.map fD), T (ar.map arD)])] = some (.fz (claimD c F0 F1 R ar), as') ∧ as'.length = 3 := by
  let P : D := c.pair (T (F0.map fD)) (T (F1.map fD))
  let rel : D := T [T (R.map fD), T (ar.map arD)]
  let FS : D := T (R.map fD)
  let AS : D := T (ar.map arD)
  let QS : D := .lst ((qrs c).map qD)
  let due : List Fm := R ++ F1.map (markF "r.")
  let asks : D := T ((due.map (imgF (qrs c))).map fD)
  let gv : List Fm := giv0 c ++ F0.map (markF "l.")
  let th : D := .lst (c.arrc.map S)
  have hz := size1000
  obtain ⟨as1, e1, n1⟩ := equal_ok c h (T (F0.map fD)) (T (F1.map fD))
  obtain ⟨as2, e2, n2⟩ := pairs_ok c h hk (T (F0.map fD)) (T (F1.map fD))
  have lg0 : (giv0 c).length ≤ 4 := by
    unfold giv0
    split <;> simp
  have hv : ∀ ρ : Rho, ρ[0]? = some (some (.fz P)) → mVar 0 ρ = some (P, ρ) := fun ρ hρ => by unfold mVar; rw [hρ]
  have hi0 : ∀ ρ : Rho, ρ[0]? = some (some (.fz P)) → iSeq (mOp2 dIx (mOp1 (dAttr ok_invariants (Str.ofString "invariants")) (mVar 0)) (mC (D.int 0))) ρ = some (F0.map fD, ρ) := fun ρ hρ =>
    ev_seqT (ev_op (x := T [T (F0.map fD), T (F1.map fD)]) (y := .int 0) (ev_op1 (hv _ hρ) (by kernel_rfl)) rfl rfl)
  have hi1 : ∀ ρ : Rho, ρ[0]? = some (some (.fz P)) → iSeq (mOp2 dIx (mOp1 (dAttr ok_invariants (Str.ofString "invariants")) (mVar 0)) (mC (D.int 1))) ρ = some (F1.map fD, ρ) := fun ρ hρ =>
    ev_seqT (ev_op (x := T [T (F0.map fD), T (F1.map fD)]) (y := .int 1) (ev_op1 (hv _ hρ) (by kernel_rfl)) rfl rfl)
  refine ⟨_, ev_run (ρ' := [some (.fz P), some (.fz (cvD c)), some (.fz rel), some (.fz FS), some (.fz AS), some (.lst ((gv.map fD).map .fz)), some (.lst [.fz (same0 c)]), some (.fz QS), some (.fz (.lst (due.map fD))), some (.fz asks), some (.fz (.lst [S c.n.a0])), some (.fz th), some (.fz (T (ar.map (keepDD c)))), none, none, none, none]) ?_ rfl rfl rfl, rfl⟩
  unfold der_exchange_claim
  dsimp only
  refine seq_nx (ρ1 := [some (.fz P), some (.fz (cvD c)), some (.fz rel), some (.fz FS), some (.fz AS), none, none, none, none, none, none, none, none, none, none, none, none]) rfl ?_
  refine seq_nx (ev_unpO (ρ2 := [some (.fz P), some (.fz (cvD c)), some (.fz rel), some (.fz FS), some (.fz AS), some (.lst (((giv0 c).map fD).map .fz)), some (.lst [.fz (same0 c)]), none, none, none, none, none, none, none, none, none, none]) (ev_callD (ds := [P, cvD c]) (ev_cons rfl (ev_one rfl)) e1 n1) rfl rfl) ?_
  · have hc := comp_all (gi := iSeq (mOp2 dIx (mOp1 (dAttr ok_invariants (Str.ofString "invariants")) (mVar 0)) (mC (D.int 0)))) (vs := [14]) (b := gSet 14) (g := mFrz (oCallD c_sided (dsCons (mC (D.str (Str.ofString "l."))) (dsCons (mVar 14) dsNil)))) fD (fun f => fD (markF "l." f)) F0 (hi0 [some (.fz P), some (.fz (cvD c)), some (.fz rel), some (.fz FS), some (.fz AS), some (.lst (((giv0 c).map fD).map .fz)), some (.lst [.fz (same0 c)]), none, none, none, none, none, none, none, none, none, none] rfl) rfl (by omega) (fun f hf => by
      obtain ⟨as', e, l⟩ := (h0 f hf).sided "l." (by decide)
      exact ⟨[some (.fz P), some (.fz (cvD c)), some (.fz rel), some (.fz FS), some (.fz AS), some (.lst (((giv0 c).map fD).map .fz)), some (.lst [.fz (same0 c)]), none, none, none, none, none, none, none, some (.fz (fD f)), none, none], _, rfl, ev_frz (ev_callD (ds := [S "l.", fD f]) (ev_cons rfl (ev_one rfl)) e l) rfl, rfl⟩) rfl
    refine seq_nx (ρ1 := [some (.fz P), some (.fz (cvD c)), some (.fz rel), some (.fz FS), some (.fz AS), some (.lst ((gv.map fD).map .fz)), some (.lst [.fz (same0 c)]), none, none, none, none, none, none, none, none, none, none]) (ev_extend2 (ds := F0.map fun f => fD (markF "l." f)) rfl (ev_frz hc (frz_lst _)) rfl rfl (by simp; omega) ?_) ?_
    · simp [gv, Function.comp]
    refine seq_nx (ev_asg2 (ev_fz (ev_frz (ev_callD (ds := [P, cvD c]) (ev_cons rfl (ev_one rfl)) e2 n2) rfl)) rfl rfl) ?_
    have hc2 := comp_all (gi := iSeq (mOp2 dIx (mOp1 (dAttr ok_invariants (Str.ofString "invariants")) (mVar 0)) (mC (D.int 1)))) (vs := [14]) (b := gSet 14) (g := mFrz (oCallD c_sided (dsCons (mC (D.str (Str.ofString "r."))) (dsCons (mVar 14) dsNil)))) fD (fun f => fD (markF "r." f)) F1 (hi1 [some (.fz P), some (.fz (cvD c)), some (.fz rel), some (.fz FS), some (.fz AS), some (.lst ((gv.map fD).map .fz)), some (.lst [.fz (same0 c)]), some (.fz QS), none, none, none, none, none, none, none, none, none] rfl) rfl (by omega) (fun f hf => by
      obtain ⟨as', e, l⟩ := (h1 f hf).sided "r." (by decide)
      exact ⟨[some (.fz P), some (.fz (cvD c)), some (.fz rel), some (.fz FS), some (.fz AS), some (.lst ((gv.map fD).map .fz)), some (.lst [.fz (same0 c)]), some (.fz QS), none, none, none, none, none, none, some (.fz (fD f)), none, none], _, rfl, ev_frz (ev_callD (ds := [S "r.", fD f]) (ev_cons rfl (ev_one rfl)) e l) rfl, rfl⟩) rfl
    have hdue : dAddG (.lst (R.map fD)) (.lst (F1.map fun f => fD (markF "r." f))) = some (.lst (due.map fD)) := by
      rw [add_lst (by simp; omega)]
      simp [due, Function.comp]
    refine seq_nx (ev_asg2 (o := .fz (.lst (due.map fD))) (ev_fz (ev_op (ev_frz (o := .lst ((R.map fD).map .fz)) rfl (frz_lst _)) (ev_frz hc2 (frz_lst _)) hdue)) rfl rfl) ?_
    have hc3 := comp_all (gi := iSeq (mVar 8)) (vs := [14]) (b := gSet 14) (g := mFrz (oCallD c_image (dsCons (mVar 14) (dsCons (mVar 7) dsNil)))) (ρ := [some (.fz P), some (.fz (cvD c)), some (.fz rel), some (.fz FS), some (.fz AS), some (.lst ((gv.map fD).map .fz)), some (.lst [.fz (same0 c)]), some (.fz QS), some (.fz (.lst (due.map fD))), none, none, none, none, none, none, none, none]) fD (fun f => fD (imgF (qrs c) f)) due rfl rfl (by simp [due]; omega) (fun f hf => by
      have : ∃ as', c_image [.fz (fD f), .fz QS] = some (.fz (fD (imgF (qrs c) f)), as') ∧ as'.length = 2 := by
        rcases List.mem_append.mp hf with hf | hf
        · exact (hR f hf).image c h
        · obtain ⟨g, hg, rfl⟩ := List.mem_map.mp hf
          exact imageM g (h1 g hg) "r." c h
      obtain ⟨as', e, l⟩ := this
      exact ⟨[some (.fz P), some (.fz (cvD c)), some (.fz rel), some (.fz FS), some (.fz AS), some (.lst ((gv.map fD).map .fz)), some (.lst [.fz (same0 c)]), some (.fz QS), some (.fz (.lst (due.map fD))), none, none, none, none, none, some (.fz (fD f)), none, none], _, rfl, ev_frz (ev_callD (ds := [fD f, QS]) (ev_cons rfl (ev_one rfl)) e l) rfl, rfl⟩) rfl
    have hask : (T (due.map fun f => fD (imgF (qrs c) f)) : D) = asks := by simp [asks, Function.comp]
    refine seq_nx (ev_asg2 (o := .fz asks) (ev_fz (ev_fn (ev_one (ev_frz hc3 (frz_lst _))) (by rw [← hask]; rfl))) rfl rfl) ?_
    have hm := ev_meth (c := 0) (m := Str.ofString "state_arrays") (fn := c_Pair_state_arrays) (g := mVar 0) (f := dsCons (mC (.int 0)) dsNil) (ρ := [some (.fz P), some (.fz (cvD c)), some (.fz rel), some (.fz FS), some (.fz AS), some (.lst ((gv.map fD).map .fz)), some (.lst [.fz (same0 c)]), some (.fz QS), some (.fz (.lst (due.map fD))), some (.fz asks), none, none, none, none, none, none, none]) (ds := [.int 0]) rfl rfl (statearr c h (T (F0.map fD)) (T (F1.map fD))) rfl (by decide +kernel)
    refine seq_nx (ρ1 := [some (.fz P), some (.fz (cvD c)), some (.fz rel), some (.fz FS), some (.fz AS), some (.lst ((gv.map fD).map .fz)), some (.lst [.fz (same0 c)]), some (.fz QS), some (.fz (.lst (due.map fD))), some (.fz asks), some (.fz (.lst [S c.n.a0])), none, none, none, none, none, none]) (ev_asg2 (ev_fz (ev_frz hm rfl)) rfl rfl) ?_
    refine seq_nx (ρ1 := [some (.fz P), some (.fz (cvD c)), some (.fz rel), some (.fz FS), some (.fz AS), some (.lst ((gv.map fD).map .fz)), some (.lst [.fz (same0 c)]), some (.fz QS), some (.fz (.lst (due.map fD))), some (.fz asks), some (.fz (.lst [S c.n.a0])), some (.fz th), none, none, none, none, none]) ?_ ?_
    · have hh := theirsE c h (g := mOp2 dIx (mOp1 (dAttr ok_cores (Str.ofString "cores")) (mVar 0)) (mC (D.int 1))) (ρ := [some (.fz P), some (.fz (cvD c)), some (.fz rel), some (.fz FS), some (.fz AS), some (.lst ((gv.map fD).map .fz)), some (.lst [.fz (same0 c)]), some (.fz QS), some (.fz (.lst (due.map fD))), some (.fz asks), some (.fz (.lst [S c.n.a0])), none, none, none, none, none, none]) (ev_op (x := c.cores) (y := .int 1) (ev_op1 (hv _ rfl) (by kernel_rfl)) rfl (by kernel_rfl)) rfl
      rcases h.lg with ⟨hl, _⟩ | hl
      · rw [itc0 c hl] at hh
        refine ev_asg2 (o := .fz (.lst [S c.n.ac])) (ev_fz (ev_frz (ev_comp (ρ2 := [some (.fz P), some (.fz (cvD c)), some (.fz rel), some (.fz FS), some (.fz AS), some (.lst ((gv.map fD).map .fz)), some (.lst [.fz (same0 c)]), some (.fz QS), some (.fz (.lst (due.map fD))), some (.fz asks), some (.fz (.lst [S c.n.a0])), none, none, none, none, none, none]) (ds := [itD (false, c.n.xc), itD (true, c.n.ac)]) (xs := [S c.n.ac]) (ev_seqT hh) rfl (by kernel_rfl)) rfl)) rfl ?_
        simp only [th, arr0 c hl]
        rfl
      · have hl : c.log = 1 := by rcases hl with ⟨z, _⟩ | ⟨z, _⟩ <;> exact z
        rw [itc1 c hl] at hh
        refine ev_asg2 (o := .fz (.lst [S c.n.ac, S c.n.wc])) (ev_fz (ev_frz (ev_comp (ρ2 := [some (.fz P), some (.fz (cvD c)), some (.fz rel), some (.fz FS), some (.fz AS), some (.lst ((gv.map fD).map .fz)), some (.lst [.fz (same0 c)]), some (.fz QS), some (.fz (.lst (due.map fD))), some (.fz asks), some (.fz (.lst [S c.n.a0])), none, none, none, none, none, none]) (ds := [itD (false, c.n.xc), itD (true, c.n.ac), itD (true, c.n.wc)]) (xs := [S c.n.ac, S c.n.wc]) (ev_seqT hh) rfl (by kernel_rfl)) rfl)) rfl ?_
        simp only [th, arr1 c hl]
        rfl
    refine seq_nx (ρ1 := [some (.fz P), some (.fz (cvD c)), some (.fz rel), some (.fz FS), some (.fz AS), some (.lst ((gv.map fD).map .fz)), some (.lst [.fz (same0 c)]), some (.fz QS), some (.fz (.lst (due.map fD))), some (.fz asks), some (.fz (.lst [S c.n.a0])), some (.fz th), some (.fz (T (ar.map (keepDD c)))), none, none, none, none]) ?_ ?_
    · have hc4 := comp_all (gi := iSeq (mVar 4)) (vs := [15, 16]) (b := gTupD 2 (gsCons (gSet 15) (gsCons (gSet 16) gsNil))) (g := mTup (dsCons (mOp2 dIx (mVar 10) (mVar 15)) (dsCons (mOp2 dIx (mVar 11) (mOp2 dIx (mOp2 dIx (mVar 1) (mC (D.int 1))) (mVar 16))) dsNil))) (ρ := [some (.fz P), some (.fz (cvD c)), some (.fz rel), some (.fz FS), some (.fz AS), some (.lst ((gv.map fD).map .fz)), some (.lst [.fz (same0 c)]), some (.fz QS), some (.fz (.lst (due.map fD))), some (.fz asks), some (.fz (.lst [S c.n.a0])), some (.fz th), none, none, none, none, none]) arD (keepDD c) ar rfl rfl (by omega) (fun k hk => by
        obtain ⟨p, hp1, hp2⟩ := keep_at c h k (har k hk)
        exact ⟨[some (.fz P), some (.fz (cvD c)), some (.fz rel), some (.fz FS), some (.fz AS), some (.lst ((gv.map fD).map .fz)), some (.lst [.fz (same0 c)]), some (.fz QS), some (.fz (.lst (due.map fD))), some (.fz asks), some (.fz (.lst [S c.n.a0])), some (.fz th), none, none, none, some (.fz (.int 0)), some (.fz (.int (k : Int)))], _, rfl, ev_tup (ev_cons (ev_op (x := .lst [S c.n.a0]) (y := .int 0) rfl rfl rfl) (ev_one (ev_op (x := th) rfl (ev_op (x := T ((cvPl c.log c.sw).map .int)) (y := .int (k : Int)) (ev_op (x := cvD c) (y := .int 1) rfl rfl rfl) rfl hp1) hp2))) two_le, rfl⟩) rfl
      refine ev_asg2 (o := .fz (T (ar.map (keepDD c)))) (ev_fz (ev_fn (ev_one (ev_frz hc4 (frz_lst _))) rfl)) rfl rfl
    refine ev_ret (ev_fz (ev_tup (ev_cons rfl (ev_cons (d := S "cv") rfl (ev_cons (ev_peek (ev_fn (ev_one (ev_view rfl (frz_lst _))) rfl) (imms_fD gv)) (ev_cons (ev_peek (ev_fn (ev_one (ev_view (o := .lst [.fz (same0 c)]) rfl rfl)) rfl) rfl) (ev_cons rfl (ev_one rfl)))))) (small (by simp))))
end Hd
set_option Elab.async false
set_option linter.all false
set_option maxRecDepth 100000
set_option maxHeartbeats 4000000
set_option autoImplicit false
/-! P36u: _law_claim. -/
namespace Hd
open PySem PySem.Spec L2 PI
local macro_rules | `(tactic| get_elem_tactic_trivial) => `(tactic| (repeat' (first
  | with_reducible assumption
  | with_reducible apply seq_rt
  | with_reducible apply seq_nx
  | with_reducible apply ev_ret
  | with_reducible apply ev_asg2
  | with_reducible apply ev_append2
  | with_reducible apply ev_extend2
  | with_reducible apply ev_unp
  | with_reducible apply ev_aug2
  | with_reducible apply ev_fz
  | with_reducible apply ev_tup
  | with_reducible apply ev_lst
  | with_reducible apply ev_cons
  | with_reducible apply ev_op
  | with_reducible apply ev_op1
  | with_reducible apply ev_fn
  | with_reducible apply ev_frz
  | with_reducible apply ev_b
  | with_reducible apply ev_if
  | with_reducible apply ev_not
  | with_reducible apply ev_aCons
  | with_reducible apply ev_aLend
  | with_reducible apply ev_callD
  | with_reducible apply ev_call2
  | with_reducible exact add_str (by assumption)
  | assumption
  | exact two_le
  | dsimp only
  | exact rfl
  | exact small (by simp)
  | decide)))
theorem cut_at {s : Str} : cutS ("@#" ++ s) none (some 1) = "@" := by
  unfold cutS HT.sIx
  have e : ("@#" ++ s).cps.toList = 64 :: 35 :: s.cps.toList := by rw [app_list]; rfl
  have hl : ("@#" ++ s).length = s.length + 2 := by
    rw [len_app]
    have : ("@#" : Str).length = 2 := by decide
    omega
  rw [e, hl]
  have h1 : ((1 : Int) < 0) = False := by simp
  simp only [h1, if_false, List.drop_zero]
  have h2 : min (1 : Int).toNat (s.length + 2) - 0 = 1 := by
    have : (1 : Int).toNat = 1 := rfl
    omega
  rw [h2]
  rfl
theorem lask_ok {s : Str} (h : s.length ≤ 8) : c_u_law_ask_form [.fz (S "r."), .fz (S ("@#" ++ s))] = some (.fz (fD (vr (qS s))), [some (.fz (S "r.")), some (.fz (S ("@#" ++ s)))]) := by
  have hl : ("@#" ++ s).length = s.length + 2 := by
    rw [len_app]
    have : ("@#" : Str).length = 2 := by decide
    omega
  have h1 : dSlice (S ("@#" ++ s)) none (some 1) = some (S "@") := by
    unfold dSlice
    dsimp only
    rw [decide_eq_true (small (by omega)), cut_at]
  have h2 : dAddG (S "r.") (S ("@#" ++ s)) = some (S (qS s)) := by
    rw [← qS_eq]
    exact add_str (by
      have : ("r." : Str).length = 2 := by decide
      omega)
  have e1 : c_u_law_ask [.fz (S "r."), .fz (S ("@#" ++ s))] = some (.fz (S (qS s)), [some (.fz (S "r.")), some (.fz (S ("@#" ++ s)))]) := by
    refine ev_run (ρ' := [some (.fz (S "r.")), some (.fz (S ("@#" ++ s)))]) ?_ rfl rfl rfl
    unfold der_u_law_ask
    dsimp only
    exact seq_rt (ev_if (k := true) (ev_b (ev_op (ev_slice (x := S ("@#" ++ s)) rfl rfl (ev_some (i := 1) rfl) h1) rfl (by kernel_rfl))) (ev_ret (ev_fz (ev_op (x := S "r.") (y := S ("@#" ++ s)) rfl rfl h2))))
  refine ev_run (ρ' := [some (.fz (S "r.")), some (.fz (S ("@#" ++ s)))]) (ev_ret (ev_fz (ev_tup (ev_cons rfl (ev_one (ev_tup (ev_one (ev_tup (ev_cons (ev_frz (ev_callD (ds := [S "r.", S ("@#" ++ s)]) (ev_cons rfl (ev_one rfl)) e1 rfl) rfl) (ev_one rfl)) two_le)) (small (by simp [vr]))))) two_le))) rfl rfl rfl
theorem lask_res : c_u_law_ask_form [.fz (S "r."), .fz (S "result.x")] = some (.fz (fD (vr ("r.." ++ "result.x"))), [some (.fz (S "r.")), some (.fz (S "result.x"))]) := by kernel_rfl
abbrev mineG : MD := (mSlice
                (mOp2 dIx
                  (mOp2 dIx
                    (mFrz
                      (oComp (iSeq (mOp2 dIx (mVar 0) (mC (D.int 0))))
                        [24] (gSet 24)
                        (bOf
                          (mOp2 dEqD (mOp2 dIx (mVar 24) (mC (D.int 0)))
                            (mOp2 dIx (mOp2 dIx (mOp2 dIx (mVar 1) (mC (D.int 0))) (mC (D.int 3))) (mC (D.int 0)))))
                        (mVar 24)))
                    (mC (D.int 0)))
                  (mC (D.int 1)))
                pNone
                (pSome
                  (mOp2 dAddG (mOp2 dIx (mOp2 dIx (mVar 1) (mC (D.int 0))) (mC (D.int 0)))
                    (mOp2 dIx (mOp2 dIx (mVar 1) (mC (D.int 0))) (mC (D.int 1))))))
/-- the state of _law_claim -/
structure Cl where
  inv : Option O
  pr : D
  cv : D
  rel : D
def clR (c : Cs) (z : Cl) (r : List (Option O)) : Rho := some (.fz c.cores) :: some (.fz c.parts) :: z.inv :: some (.fz z.pr) :: some (.fz z.cv) :: some (.fz z.rel) :: r
def nn (n : Nat) : List (Option O) := List.replicate n none
theorem mineG_ok (c : Cs) (h : CsOk c) (z : Cl) : mineG (clR c z (nn 19)) = some (T (c.it0.map itD), clR c z (nn 19)) := by
  have hn2 : ((c.kn0.map (·.1)).map (·.1)).Nodup := by rw [List.map_map]; exact nd0 c
  have hf := filter_one (c.kn0.map (·.1)) (put0 c).1 hn2 (List.mem_map_of_mem (f := fun q : (Str × List D) × List Str => q.1) (put0_in c h))
  have hl := len0 c
  have hc := comp_sel (gi := iSeq (mOp2 dIx (mVar 0) (mC (D.int 0)))) (vs := [24]) (b := gSet 24) (t := (bOf
                          (mOp2 dEqD (mOp2 dIx (mVar 24) (mC (D.int 0)))
                            (mOp2 dIx (mOp2 dIx (mOp2 dIx (mVar 1) (mC (D.int 0))) (mC (D.int 3))) (mC (D.int 0)))))) (g := mVar 24) (ρ := clR c z (nn 19)) (ρ1 := clR c z (nn 19)) prD (fun p => decide (p.1 = ("putl" : Str))) prD (c.kn0.map (·.1))
    (ev_seqT (ev_op (x := c.cores) (y := .int 0) rfl rfl (by rw [← kn_map]; rfl))) rfl (by simpa using hl) (fun p hp =>
      ⟨clR c z (nn 18 ++ [some (.fz (prD p))]), clR c z (nn 18 ++ [some (.fz (prD p))]), rfl, ev_b (ev_op (x := .str p.1) (y := S "putl") (ev_op (x := prD p) rfl rfl ix0) (ev_op (x := namesD "l" c.many) (ev_op (x := partD "l" 0 0 c.many) rfl rfl (part3 _ _ _ _)) rfl (part30 _ _ h.mn)) rfl), fun _ => rfl, rfl, rfl⟩) rfl
  have e : (c.kn0.map (·.1)).filter (fun p => decide (p.1 = ("putl" : Str))) = [(put0 c).1] := hf
  rw [e] at hc
  exact ev_slice (ρ1 := clR c z (nn 19)) (ρ2 := clR c z (nn 19)) (ev_op (ev_op (ev_frz hc (frz_lst _)) rfl rfl) rfl (put0_it c)) rfl (ev_some (i := 1 + (1 + 0)) (by kernel_rfl)) (mine0 c)
end Hd
set_option Elab.async false
set_option linter.all false
set_option maxRecDepth 100000
set_option maxHeartbeats 4000000
set_option autoImplicit false
/-! P36t: _law_claim, its statements in turn. -/
namespace Hd
open PySem PySem.Spec L2 PI
theorem imm_fD (f : Fm) : (fD f).imm = true := by
  have := imms_fD [f]
  simpa [D.imms] using this
theorem zip_range : ∀ (ns : List Str) (fs : List Fm), fs.length = ns.length → (List.range ns.length).map (fun i => T [S ("r." ++ ns.getD i ""), fD (fs.getD i (0, []))]) = ((ns.map fun n : Str => ("r." : Str) ++ n).zip fs).map qD
  | [], [], _ => rfl
  | [], _ :: _, e => by simp at e
  | _ :: _, [], e => by simp at e
  | n :: ns, f :: fs, e => by
    have ih := zip_range ns fs (by simpa using e)
    rw [List.length_cons, List.range_succ_eq_map, List.map_cons, List.map_map, List.map_cons, List.zip_cons_cons, List.map_cons, ← ih]
    rfl
theorem qrs_range (c : Cs) (h : CsOk c) : (List.range c.N1.length).map (fun i => T [S ("r." ++ c.N1.getD i ""), fD ((fnd c).getD i (0, []))]) = (qrs c).map qD := zip_range _ _ (fnd_len c h)
abbrev B1 : MS := (sIf
                    (bOf
                      (mOp2 dEqD (mOp2 dIx (mOp2 dIx (mVar 6) (mVar 9)) (mC (D.int 0)))
                        (mC (D.str (Str.ofString "array")))))
                    (sAppend 8
                      (oFz
                        (mTup
                          (dsCons (mOp2 dIx (mOp2 dIx (mVar 6) (mVar 9)) (mC (D.int 1)))
                            (dsCons (mOp2 dIx (mOp2 dIx (mOp2 dIx (mVar 3) (mC (D.int 1))) (mVar 9)) (mC (D.int 1)))
                              dsNil)))))
                    (sSeq
                      (sAsg 10
                        (oFz
                          (mTup
                            (dsCons (mC (D.int 0))
                              (dsCons
                                (mTup
                                  (dsCons
                                    (mTup
                                      (dsCons
                                        (mOp2 dAddG (mC (D.str (Str.ofString "l.@")))
                                          (mOp2 dIx (mOp2 dIx (mVar 6) (mVar 9)) (mC (D.int 1))))
                                        (dsCons (mC (D.int 1)) dsNil)))
                                    dsNil))
                                dsNil)))))
                      (sAsg 7
                        (oFz
                          (mOp2 dAddG (mVar 7)
                            (mFrz
                              (oCallD c_u_law_both_ways
                                (dsCons (mVar 10)
                                  (dsCons
                                    (mTup
                                      (dsCons (mC (D.int 0))
                                        (dsCons
                                          (mTup
                                            (dsCons
                                              (mTup
                                                (dsCons
                                                  (mOp2 dAddG (mC (D.str (Str.ofString "r.@")))
                                                    (mOp2 dIx (mOp2 dIx (mOp2 dIx (mVar 3) (mC (D.int 1))) (mVar 9))
                                                      (mC (D.int 1))))
                                                  (dsCons (mC (D.int 1)) dsNil)))
                                              dsNil))
                                          dsNil)))
                                    dsNil)))))))))
theorem itcH (c : Cs) : ∃ r, c.itc = (false, c.n.xc) :: (true, c.n.ac) :: r := by
  unfold Cs.itc cvI
  exact ⟨_, rfl⟩
theorem B1_int (c : Cs) (h : CsOk c) (z : Cl) (hz : z.pr = prD c.cv) : B1 (clR c z [some (.fz (T (c.it0.map itD))), some (.fz (.lst [])), some (.lst []), some (.fz (.int 0)), none, none, none, none, none, none, none, none, none, none, none, none, none, none, none]) = some (.nx, clR c z [some (.fz (T (c.it0.map itD))), some (.fz (.lst ([minusF (vr ("l.@" ++ c.n.x0)) (vr ("r.@" ++ c.n.xc)), minusF (vr ("r.@" ++ c.n.xc)) (vr ("l.@" ++ c.n.x0))].map fD))), some (.lst []), some (.fz (.int 0)), some (.fz (fD (vr ("l.@" ++ c.n.x0)))), none, none, none, none, none, none, none, none, none, none, none, none, none, none]) := by
  obtain ⟨r, hr⟩ := itcH c
  obtain ⟨as1, e1, l1⟩ := lboth_ok (vr ("l.@" ++ c.n.x0)) (vr ("r.@" ++ c.n.xc)) (by simp [vr])
  have b1 := ad1s h.nm.l0
  have b2 := ad2s h.nm.l5
  have hp : dIx z.pr (.int 1) = some (T (c.itc.map itD)) := by rw [hz]; exact cvit c
  have hp2 : dIx (T (c.itc.map itD)) (.int 0) = some (itD (false, c.n.xc)) := by rw [hr]; exact ix0
  refine ev_if (k := false) (ρ1 := clR c z [some (.fz (T (c.it0.map itD))), some (.fz (.lst [])), some (.lst []), some (.fz (.int 0)), none, none, none, none, none, none, none, none, none, none, none, none, none, none, none]) (by kernel_rfl) ?_
  dsimp only
  refine seq_nx (ρ1 := clR c z [some (.fz (T (c.it0.map itD))), some (.fz (.lst [])), some (.lst []), some (.fz (.int 0)), some (.fz (fD (vr ("l.@" ++ c.n.x0)))), none, none, none, none, none, none, none, none, none, none, none, none, none, none]) (ev_asg2 (o := .fz (fD (vr ("l.@" ++ c.n.x0)))) (ev_fz (ev_tup (ev_cons rfl (ev_one (ev_tup (ev_one (ev_tup (ev_cons (ev_op (x := S "l.@") (y := S c.n.x0) rfl (ev_op (x := itD (false, c.n.x0)) (ev_op (x := T (c.it0.map itD)) (y := .int 0) rfl rfl rfl) rfl rfl) b1) (ev_one rfl)) two_le)) (small (by simp [vr]))))) two_le)) rfl rfl) ?_
  refine ev_asg2 (ρ1 := clR c z [some (.fz (T (c.it0.map itD))), some (.fz (.lst [])), some (.lst []), some (.fz (.int 0)), some (.fz (fD (vr ("l.@" ++ c.n.x0)))), none, none, none, none, none, none, none, none, none, none, none, none, none, none]) (o := .fz (.lst ([minusF (vr ("l.@" ++ c.n.x0)) (vr ("r.@" ++ c.n.xc)), minusF (vr ("r.@" ++ c.n.xc)) (vr ("l.@" ++ c.n.x0))].map fD))) (ev_fz (ev_op (x := .lst []) (y := .lst ([minusF (vr ("l.@" ++ c.n.x0)) (vr ("r.@" ++ c.n.xc)), minusF (vr ("r.@" ++ c.n.xc)) (vr ("l.@" ++ c.n.x0))].map fD)) rfl (ev_frz (ev_callD (ds := [fD (vr ("l.@" ++ c.n.x0)), fD (vr ("r.@" ++ c.n.xc))]) (ev_cons rfl (ev_one ?_)) e1 l1) rfl) (add_lst (by simp)))) rfl rfl
  exact ev_tup (ev_cons rfl (ev_one (ev_tup (ev_one (ev_tup (ev_cons (ev_op (x := S "r.@") (y := S c.n.xc) rfl (ev_op (x := itD (false, c.n.xc)) (ev_op (x := T (c.itc.map itD)) (y := .int 0) (ev_op (x := z.pr) rfl rfl hp) rfl hp2) rfl rfl) b2) (ev_one rfl)) two_le)) (small (by simp [vr]))))) two_le
theorem B1_arr (c : Cs) (h : CsOk c) (z : Cl) (hz : z.pr = prD c.cv) : B1 (clR c z [some (.fz (T (c.it0.map itD))), some (.fz (.lst ([minusF (vr ("l.@" ++ c.n.x0)) (vr ("r.@" ++ c.n.xc)), minusF (vr ("r.@" ++ c.n.xc)) (vr ("l.@" ++ c.n.x0))].map fD))), some (.lst []), some (.fz (.int 1)), some (.fz (fD (vr ("l.@" ++ c.n.x0)))), none, none, none, none, none, none, none, none, none, none, none, none, none, none]) = some (.nx, clR c z [some (.fz (T (c.it0.map itD))), some (.fz (.lst ([minusF (vr ("l.@" ++ c.n.x0)) (vr ("r.@" ++ c.n.xc)), minusF (vr ("r.@" ++ c.n.xc)) (vr ("l.@" ++ c.n.x0))].map fD))), some (.lst [.fz (same0 c)]), some (.fz (.int 1)), some (.fz (fD (vr ("l.@" ++ c.n.x0)))), none, none, none, none, none, none, none, none, none, none, none, none, none, none]) := by
  obtain ⟨r, hr⟩ := itcH c
  have hp : dIx z.pr (.int 1) = some (T (c.itc.map itD)) := by rw [hz]; exact cvit c
  have hp2 : dIx (T (c.itc.map itD)) (.int 1) = some (itD (true, c.n.ac)) := by rw [hr]; exact ix1
  refine ev_if (k := true) (ρ1 := clR c z [some (.fz (T (c.it0.map itD))), some (.fz (.lst ([minusF (vr ("l.@" ++ c.n.x0)) (vr ("r.@" ++ c.n.xc)), minusF (vr ("r.@" ++ c.n.xc)) (vr ("l.@" ++ c.n.x0))].map fD))), some (.lst []), some (.fz (.int 1)), some (.fz (fD (vr ("l.@" ++ c.n.x0)))), none, none, none, none, none, none, none, none, none, none, none, none, none, none]) (by kernel_rfl) ?_
  dsimp only
  refine ev_append2 (ρ1 := clR c z [some (.fz (T (c.it0.map itD))), some (.fz (.lst ([minusF (vr ("l.@" ++ c.n.x0)) (vr ("r.@" ++ c.n.xc)), minusF (vr ("r.@" ++ c.n.xc)) (vr ("l.@" ++ c.n.x0))].map fD))), some (.lst []), some (.fz (.int 1)), some (.fz (fD (vr ("l.@" ++ c.n.x0)))), none, none, none, none, none, none, none, none, none, none, none, none, none, none]) (o := .fz (same0 c)) rfl (ev_fz (ev_tup (ev_cons (d := S c.n.a0) (ev_op (x := itD (true, c.n.a0)) (ev_op (x := T (c.it0.map itD)) (y := .int 1) rfl rfl rfl) rfl rfl) (ev_one (ev_op (x := itD (true, c.n.ac)) (ev_op (x := T (c.itc.map itD)) (y := .int 1) (ev_op (x := z.pr) rfl rfl hp) rfl hp2) rfl rfl))) two_le)) rfl (by decide) rfl
abbrev B2 : MS := (sAsg 7
                      (oFz
                        (mOp2 dAddG (mVar 7)
                          (mFrz
                            (oLst
                              (dsCons
                                (mTup
                                  (dsCons (mC (D.int 0))
                                    (dsCons
                                      (mTup
                                        (dsCons
                                          (mTup
                                            (dsCons (mOp2 dAddG (mC (D.str (Str.ofString "r.@#"))) (mVar 12))
                                              (dsCons (mC (D.int 1)) dsNil)))
                                          dsNil))
                                      dsNil)))
                                (dsCons
                                  (mTup
                                    (dsCons (mC (D.int 0))
                                      (dsCons
                                        (mTup
                                          (dsCons
                                            (mTup
                                              (dsCons (mOp2 dAddG (mC (D.str (Str.ofString "r.@#"))) (mVar 12))
                                                (dsCons (mOp1 dNeg (mC (D.int 1))) dsNil)))
                                            dsNil))
                                        dsNil)))
                                  dsNil)))))))
abbrev B2f : MS := sFor
                    (iSeq (mSlice (mOp2 dIx (mVar 3) (mC (D.int 1))) (pSome (mFn fLen (dsCons (mVar 6) dsNil))) pNone))
                    (gTupD 2 (gsCons (gSet 11) (gsCons (gSet 12) gsNil))) B2
theorem B2_ok (c : Cs) (h : CsOk c) (z : Cl) (hz : z.pr = prD c.cv) : ∃ d11 d12 : Option D, B2f (clR c z [some (.fz (T (c.it0.map itD))), some (.fz (.lst ([minusF (vr ("l.@" ++ c.n.x0)) (vr ("r.@" ++ c.n.xc)), minusF (vr ("r.@" ++ c.n.xc)) (vr ("l.@" ++ c.n.x0))].map fD))), some (.lst [.fz (same0 c)]), some (.fz (.int 1)), some (.fz (fD (vr ("l.@" ++ c.n.x0)))), none, none, none, none, none, none, none, none, none, none, none, none, none, none]) = some (.nx, clR c z [some (.fz (T (c.it0.map itD))), some (.fz (.lst ((giv0 c).map fD))), some (.lst [.fz (same0 c)]), some (.fz (.int 1)), some (.fz (fD (vr ("l.@" ++ c.n.x0)))), d11.map O.fz, d12.map O.fz, none, none, none, none, none, none, none, none, none, none, none, none]) := by
  have hp : dIx z.pr (.int 1) = some (T (c.itc.map itD)) := by rw [hz]; exact cvit c
  have hw := ad3s h.nm.l7
  have hs : ∀ ds : List D, dSlice (T (c.itc.map itD)) (some 2) none = some (T ds) → iSeq (mSlice (mOp2 dIx (mVar 3) (mC (D.int 1))) (pSome (mFn fLen (dsCons (mVar 6) dsNil))) pNone) (clR c z [some (.fz (T (c.it0.map itD))), some (.fz (.lst ([minusF (vr ("l.@" ++ c.n.x0)) (vr ("r.@" ++ c.n.xc)), minusF (vr ("r.@" ++ c.n.xc)) (vr ("l.@" ++ c.n.x0))].map fD))), some (.lst [.fz (same0 c)]), some (.fz (.int 1)), some (.fz (fD (vr ("l.@" ++ c.n.x0)))), none, none, none, none, none, none, none, none, none, none, none, none, none, none]) = some (ds, clR c z [some (.fz (T (c.it0.map itD))), some (.fz (.lst ([minusF (vr ("l.@" ++ c.n.x0)) (vr ("r.@" ++ c.n.xc)), minusF (vr ("r.@" ++ c.n.xc)) (vr ("l.@" ++ c.n.x0))].map fD))), some (.lst [.fz (same0 c)]), some (.fz (.int 1)), some (.fz (fD (vr ("l.@" ++ c.n.x0)))), none, none, none, none, none, none, none, none, none, none, none, none, none, none]) := fun ds hd =>
    ev_seqT (ev_slice (ev_op (x := z.pr) rfl rfl hp) (ev_some (i := 2) rfl) rfl hd)
  rcases h.lg with ⟨hl, _⟩ | hl
  · refine ⟨none, none, ev_for (hs [] (by rw [itc0 c hl]; rfl)) ?_⟩
    simp only [giv0, hl]
    rfl
  · have hl : c.log = 1 := by rcases hl with ⟨z, _⟩ | ⟨z, _⟩ <;> exact z
    refine ⟨some (S "array"), some (S c.n.wc), ev_for (hs [itD (true, c.n.wc)] (by rw [itc1 c hl]; rfl)) (ev_for1 (ρ1 := clR c z [some (.fz (T (c.it0.map itD))), some (.fz (.lst ([minusF (vr ("l.@" ++ c.n.x0)) (vr ("r.@" ++ c.n.xc)), minusF (vr ("r.@" ++ c.n.xc)) (vr ("l.@" ++ c.n.x0))].map fD))), some (.lst [.fz (same0 c)]), some (.fz (.int 1)), some (.fz (fD (vr ("l.@" ++ c.n.x0)))), some (.fz (S "array")), some (.fz (S c.n.wc)), none, none, none, none, none, none, none, none, none, none, none, none]) rfl (ev_asg2 (o := .fz (.lst (([minusF (vr ("l.@" ++ c.n.x0)) (vr ("r.@" ++ c.n.xc)), minusF (vr ("r.@" ++ c.n.xc)) (vr ("l.@" ++ c.n.x0))] ++ [(0, [("r.@#" ++ c.n.wc, 1)]), (0, [("r.@#" ++ c.n.wc, -1)])]).map fD))) (ev_fz (ev_op (x := .lst ([minusF (vr ("l.@" ++ c.n.x0)) (vr ("r.@" ++ c.n.xc)), minusF (vr ("r.@" ++ c.n.xc)) (vr ("l.@" ++ c.n.x0))].map fD)) (y := .lst [fD (0, [("r.@#" ++ c.n.wc, 1)]), fD (0, [("r.@#" ++ c.n.wc, -1)])]) rfl (ev_frz (ev_lst (ev_cons (ev_tup (ev_cons rfl (ev_one (ev_tup (ev_one (ev_tup (ev_cons (ev_op (y := S c.n.wc) rfl rfl hw) (ev_one rfl)) two_le)) (small (by simp))))) two_le) (ev_one (ev_tup (ev_cons rfl (ev_one (ev_tup (ev_one (ev_tup (ev_cons (ev_op (y := S c.n.wc) rfl rfl hw) (ev_one rfl)) two_le)) (small (by simp))))) two_le))) two_le) rfl) (add_lst (by simp)))) rfl rfl) ?_)⟩
    simp only [giv0, hl]
    rfl
abbrev B3 : MS := (sSeq
                              (sAsg 16
                                (oFz (mOp2 dAddG (mC (D.str (Str.ofString "@#"))) (mOp2 dIx (mVar 13) (mVar 15)))))
                              (sSeq
                                (sIf
                                  (bOf
                                    (mOp2 dIn
                                      (mOp2 dAddG (mC (D.str (Str.ofString "#"))) (mOp2 dIx (mVar 13) (mVar 15)))
                                      (mFrz
                                        (oCallD c_outcomes_of
                                          (dsCons (mOp2 dIx (mVar 0) (mC (D.int 1)))
                                            (dsCons (mOp2 dIx (mVar 3) (mC (D.int 0))) dsNil))))))
                                  (sAsg 16
                                    (oFz (mOp2 dAddG (mC (D.str (Str.ofString "#"))) (mOp2 dIx (mVar 13) (mVar 15)))))
                                  sSkip)
                                (sAppend 14
                                  (oCallD c_u_law_ask_form
                                    (dsCons (mC (D.str (Str.ofString "r."))) (dsCons (mVar 16) dsNil))))))
theorem B3_step (c : Cs) (h : CsOk c) (z : Cl) (hz : z.pr = prD c.cv) (s6 s7 s8 s9 s10 s11 s12 s16 s17 s18 s19 s20 s21 s22 s23 s24 : Option O) (fs : List D) (p : Int) (s : Str) (hs : s.length ≤ 8) (ha : dIx (.lst (c.arrc.map S)) (.int p) = some (S s)) (hl : fs.length < 100) :
    B3 (clR c z [s6, s7, s8, s9, s10, s11, s12, some (.fz (.lst (c.arrc.map S))), some (.lst (fs.map .fz)), some (.fz (.int p)), s16, s17, s18, s19, s20, s21, s22, s23, s24]) =
      some (.nx, clR c z [s6, s7, s8, s9, s10, s11, s12, some (.fz (.lst (c.arrc.map S))), some (.lst ((fs ++ [fD (vr (qS s))]).map .fz)), some (.fz (.int p)), some (.fz (S ("@#" ++ s))), s17, s18, s19, s20, s21, s22, s23, s24]) := by
  have hzz := size1000
  obtain ⟨as1, e1, l1⟩ := outcv_ok c h
  have h1 : dAddG (S (Str.ofString "#")) (S s) = some (S ("#" ++ s)) := addH (by omega)
  have h0 : dAddG (S (Str.ofString "@#")) (S s) = some (S ("@#" ++ s)) := add_str (by
    have : (Str.ofString "@#").length = 2 := by decide
    omega)
  have h2 : dIn (S ("#" ++ s)) (T [S "result.x"]) = some (.bl false) := by
    have := in_tup ("#" ++ s) ["result.x"]
    rw [decide_eq_false (by simpa using not_res)] at this
    exact this
  have hp : dIx z.pr (.int 0) = some (S "cv") := by rw [hz]; rfl
  refine seq_nx (ρ1 := clR c z [s6, s7, s8, s9, s10, s11, s12, some (.fz (.lst (c.arrc.map S))), some (.lst (fs.map .fz)), some (.fz (.int p)), some (.fz (S ("@#" ++ s))), s17, s18, s19, s20, s21, s22, s23, s24]) (ev_asg2 (ev_fz (ev_op (y := S s) rfl (ev_op (x := .lst (c.arrc.map S)) (y := .int p) rfl rfl ha) h0)) rfl rfl) ?_
  refine seq_nx (ρ1 := clR c z [s6, s7, s8, s9, s10, s11, s12, some (.fz (.lst (c.arrc.map S))), some (.lst (fs.map .fz)), some (.fz (.int p)), some (.fz (S ("@#" ++ s))), s17, s18, s19, s20, s21, s22, s23, s24]) (ev_if (k := false) (ev_b (ev_op (x := S ("#" ++ s)) (y := T [S "result.x"]) (ev_op (y := S s) rfl (ev_op (x := .lst (c.arrc.map S)) (y := .int p) rfl rfl ha) h1) (ev_frz (ev_callD (ds := [knD c.knc, S "cv"]) (ev_cons (ev_op (x := c.cores) (y := .int 1) rfl rfl rfl) (ev_one (ev_op (x := z.pr) rfl rfl hp))) e1 l1) rfl) h2)) rfl) ?_
  refine ev_append2 (ρ1 := clR c z [s6, s7, s8, s9, s10, s11, s12, some (.fz (.lst (c.arrc.map S))), some (.lst (fs.map .fz)), some (.fz (.int p)), some (.fz (S ("@#" ++ s))), s17, s18, s19, s20, s21, s22, s23, s24]) (o := .fz (fD (vr (qS s)))) rfl (ev_callD (ds := [S "r.", S ("@#" ++ s)]) (ev_cons rfl (ev_one rfl)) (lask_ok hs) rfl) rfl (by simp; omega) (by simp [clR])
theorem claim_ok (c : Cs) (h : CsOk c) (hk : c.k1.length ≤ 8) (F0 F1 R : List Fm) (ar : List Nat) (h0 : ∀ f ∈ F0, GoodF f) (h1 : ∀ f ∈ F1, GoodF f) (hR : ∀ f ∈ R, GoodF f) (l0 : F0.length ≤ 10) (l1 : F1.length ≤ 10) (lR : R.length ≤ 10) (har : ∀ k ∈ ar, k < (1 + c.log).toNat) (lar : ar.length ≤ 10) :
    c_u_law_claim [.fz c.cores, .fz c.parts, .lst [.fz (T (F0.map fD)), .fz (T (F1.map fD))], .fz (prD c.cv), .fz (cvD c), .fz (T [T (R.map fD), T (ar.map arD)])] = some (.fz (claimD c F0 F1 R ar), [some (.fz c.cores), some (.fz c.parts), some (.lst [.fz (T (F0.map fD)), .fz (T (F1.map fD))]), some (.fz (prD c.cv)), some (.fz (cvD c)), some (.fz (T [T (R.map fD), T (ar.map arD)]))]) := by
  let inv : O := .lst [.fz (T (F0.map fD)), .fz (T (F1.map fD))]
  let rel : D := T [T (R.map fD), T (ar.map arD)]
  let z : Cl := ⟨some inv, prD c.cv, cvD c, rel⟩
  have hz : z.pr = prD c.cv := rfl
  have hzz := size1000
  have lg0 : (giv0 c).length ≤ 4 := by
    unfold giv0
    split <;> simp
  have hv6 := h.nm.l6
  have hv7 := h.nm.l7
  have hn3 := N1_len c
  obtain ⟨d11, d12, e2⟩ := B2_ok c h z hz
  have hmine : ∀ r : List (Option O), True := fun _ => trivial
  obtain ⟨asI, eI, lI⟩ := ins1 c h hk
  have hinv0 : ∀ r : List (Option O), iSeq (mPeek (mOp2 dIx (mVar 2) (mC (D.int 0)))) (clR c z r) = some (F0.map fD, clR c z r) := fun r =>
    ev_seqT (ev_peek (ev_op (x := .lst [T (F0.map fD), T (F1.map fD)]) (y := .int 0) (ev_view (o := inv) rfl rfl) rfl rfl) (by simp [D.imm, imms_fD]))
  have hinv1 : ∀ r : List (Option O), iSeq (mPeek (mOp2 dIx (mVar 2) (mC (D.int 1)))) (clR c z r) = some (F1.map fD, clR c z r) := fun r =>
    ev_seqT (ev_peek (ev_op (x := .lst [T (F0.map fD), T (F1.map fD)]) (y := .int 1) (ev_view (o := inv) rfl rfl) rfl rfl) (by simp [D.imm, imms_fD]))

  obtain ⟨s15, s16, e9⟩ : ∃ s15 s16, sFor (iSeq (mOp2 dIx (mVar 4) (mC (D.int 1)))) (gSet 15) B3 (clR c z [some (.fz (T (c.it0.map itD))), some (.fz (.lst ((giv0 c ++ F0.map (markF "l.")).map fD))), some (.lst [.fz (same0 c)]), some (.fz (.int 1)), some (.fz (fD (vr ("l.@" ++ c.n.x0)))), d11.map O.fz, d12.map O.fz, some (.fz (.lst (c.arrc.map S))), some (.lst ([fD (vr ("r.." ++ "result.x"))].map .fz)), none, none, none, none, none, none, none, none, none, none]) = some (.nx, clR c z [some (.fz (T (c.it0.map itD))), some (.fz (.lst ((giv0 c ++ F0.map (markF "l.")).map fD))), some (.lst [.fz (same0 c)]), some (.fz (.int 1)), some (.fz (fD (vr ("l.@" ++ c.n.x0)))), d11.map O.fz, d12.map O.fz, some (.fz (.lst (c.arrc.map S))), some (.lst (((fnd c).map fD).map .fz)), s15, s16, none, none, none, none, none, none, none, none]) := by
    rcases h.lg with ⟨hl, hs⟩ | ⟨hl, hs⟩ | ⟨hl, hs⟩
    · have ha : dIx (.lst (c.arrc.map S)) (.int 0) = some (S c.n.ac) := by rw [arr0 c hl]; rfl
      have hd : iSeq (mOp2 dIx (mVar 4) (mC (D.int 1))) (clR c z [some (.fz (T (c.it0.map itD))), some (.fz (.lst ((giv0 c ++ F0.map (markF "l.")).map fD))), some (.lst [.fz (same0 c)]), some (.fz (.int 1)), some (.fz (fD (vr ("l.@" ++ c.n.x0)))), d11.map O.fz, d12.map O.fz, some (.fz (.lst (c.arrc.map S))), some (.lst ([fD (vr ("r.." ++ "result.x"))].map .fz)), none, none, none, none, none, none, none, none, none, none]) = some ([.int 0], clR c z [some (.fz (T (c.it0.map itD))), some (.fz (.lst ((giv0 c ++ F0.map (markF "l.")).map fD))), some (.lst [.fz (same0 c)]), some (.fz (.int 1)), some (.fz (fD (vr ("l.@" ++ c.n.x0)))), d11.map O.fz, d12.map O.fz, some (.fz (.lst (c.arrc.map S))), some (.lst ([fD (vr ("r.." ++ "result.x"))].map .fz)), none, none, none, none, none, none, none, none, none, none]) := ev_seqT (ev_op (x := cvD c) (y := .int 1) rfl rfl (by simp only [cvD, convD, cvPl, hl, hs]; rfl))
      have hf : fnd c = [vr ("r.." ++ "result.x"), vr (qS c.n.ac)] := by simp [fnd, hl]
      rw [hf]
      exact ⟨_, _, ev_for hd (ev_for1 rfl (B3_step c h z hz _ _ _ _ _ _ _ _ _ _ _ _ _ _ _ _ _ 0 c.n.ac hv6 ha (by simp)) rfl)⟩
    · have ha : dIx (.lst (c.arrc.map S)) (.int 0) = some (S c.n.ac) := by rw [arr1 c hl]; rfl
      have hb : dIx (.lst (c.arrc.map S)) (.int 1) = some (S c.n.wc) := by rw [arr1 c hl]; rfl
      have hd : iSeq (mOp2 dIx (mVar 4) (mC (D.int 1))) (clR c z [some (.fz (T (c.it0.map itD))), some (.fz (.lst ((giv0 c ++ F0.map (markF "l.")).map fD))), some (.lst [.fz (same0 c)]), some (.fz (.int 1)), some (.fz (fD (vr ("l.@" ++ c.n.x0)))), d11.map O.fz, d12.map O.fz, some (.fz (.lst (c.arrc.map S))), some (.lst ([fD (vr ("r.." ++ "result.x"))].map .fz)), none, none, none, none, none, none, none, none, none, none]) = some ([.int 0, .int 1], clR c z [some (.fz (T (c.it0.map itD))), some (.fz (.lst ((giv0 c ++ F0.map (markF "l.")).map fD))), some (.lst [.fz (same0 c)]), some (.fz (.int 1)), some (.fz (fD (vr ("l.@" ++ c.n.x0)))), d11.map O.fz, d12.map O.fz, some (.fz (.lst (c.arrc.map S))), some (.lst ([fD (vr ("r.." ++ "result.x"))].map .fz)), none, none, none, none, none, none, none, none, none, none]) := ev_seqT (ev_op (x := cvD c) (y := .int 1) rfl rfl (by simp only [cvD, convD, cvPl, hl, hs]; rfl))
      have hf : fnd c = [vr ("r.." ++ "result.x"), vr (qS c.n.ac), vr (qS c.n.wc)] := by simp [fnd, hl, hs]
      rw [hf]
      exact ⟨_, _, ev_for hd (ev_for1 rfl (B3_step c h z hz _ _ _ _ _ _ _ _ _ _ _ _ _ _ _ _ _ 0 c.n.ac hv6 ha (by simp)) (ev_for1 rfl (B3_step c h z hz _ _ _ _ _ _ _ _ _ _ _ _ _ _ _ _ _ 1 c.n.wc hv7 hb (by simp)) rfl))⟩
    · have ha : dIx (.lst (c.arrc.map S)) (.int 0) = some (S c.n.ac) := by rw [arr1 c hl]; rfl
      have hb : dIx (.lst (c.arrc.map S)) (.int 1) = some (S c.n.wc) := by rw [arr1 c hl]; rfl
      have hd : iSeq (mOp2 dIx (mVar 4) (mC (D.int 1))) (clR c z [some (.fz (T (c.it0.map itD))), some (.fz (.lst ((giv0 c ++ F0.map (markF "l.")).map fD))), some (.lst [.fz (same0 c)]), some (.fz (.int 1)), some (.fz (fD (vr ("l.@" ++ c.n.x0)))), d11.map O.fz, d12.map O.fz, some (.fz (.lst (c.arrc.map S))), some (.lst ([fD (vr ("r.." ++ "result.x"))].map .fz)), none, none, none, none, none, none, none, none, none, none]) = some ([.int 1, .int 0], clR c z [some (.fz (T (c.it0.map itD))), some (.fz (.lst ((giv0 c ++ F0.map (markF "l.")).map fD))), some (.lst [.fz (same0 c)]), some (.fz (.int 1)), some (.fz (fD (vr ("l.@" ++ c.n.x0)))), d11.map O.fz, d12.map O.fz, some (.fz (.lst (c.arrc.map S))), some (.lst ([fD (vr ("r.." ++ "result.x"))].map .fz)), none, none, none, none, none, none, none, none, none, none]) := ev_seqT (ev_op (x := cvD c) (y := .int 1) rfl rfl (by simp only [cvD, convD, cvPl, hl, hs]; rfl))
      have hf : fnd c = [vr ("r.." ++ "result.x"), vr (qS c.n.wc), vr (qS c.n.ac)] := by simp [fnd, hl, hs]
      rw [hf]
      exact ⟨_, _, ev_for hd (ev_for1 rfl (B3_step c h z hz _ _ _ _ _ _ _ _ _ _ _ _ _ _ _ _ _ 1 c.n.wc hv7 hb (by simp)) (ev_for1 rfl (B3_step c h z hz _ _ _ _ _ _ _ _ _ _ _ _ _ _ _ _ _ 0 c.n.ac hv6 ha (by simp)) rfl))⟩
  refine ev_run (ρ' := clR c z [some (.fz (T (c.it0.map itD))), some (.fz (.lst ((giv0 c ++ F0.map (markF "l.")).map fD))), some (.lst [.fz (same0 c)]), some (.fz (.int 1)), some (.fz (fD (vr ("l.@" ++ c.n.x0)))), d11.map O.fz, d12.map O.fz, some (.fz (.lst (c.arrc.map S))), some (.lst (((fnd c).map fD).map .fz)), s15, s16, some (.fz (T (c.N1.map S))), some (.fz (.lst ((qrs c).map qD))), some (.fz (.lst (((R ++ F1.map (markF "r.")).map (imgF (qrs c))).map fD))), some (.fz (.lst [S c.n.a0])), some (.fz (.lst (ar.map (keepDD c)))), none, none, none]) ?_ rfl rfl rfl
  unfold der_u_law_claim
  dsimp only
  refine seq_nx (ρ1 := clR c z [some (.fz (T (c.it0.map itD))), none, none, none, none, none, none, none, none, none, none, none, none, none, none, none, none, none, none]) (ev_asg2 (ev_fz (mineG_ok c h z)) rfl rfl) ?_
  refine seq_nx (ρ1 := clR c z [some (.fz (T (c.it0.map itD))), some (.fz (.lst [])), none, none, none, none, none, none, none, none, none, none, none, none, none, none, none, none, none]) rfl ?_
  refine seq_nx (ρ1 := clR c z [some (.fz (T (c.it0.map itD))), some (.fz (.lst [])), some (.lst []), none, none, none, none, none, none, none, none, none, none, none, none, none, none, none, none]) rfl ?_
  refine seq_nx (ρ1 := clR c z [some (.fz (T (c.it0.map itD))), some (.fz (.lst ([minusF (vr ("l.@" ++ c.n.x0)) (vr ("r.@" ++ c.n.xc)), minusF (vr ("r.@" ++ c.n.xc)) (vr ("l.@" ++ c.n.x0))].map fD))), some (.lst [.fz (same0 c)]), some (.fz (.int 1)), some (.fz (fD (vr ("l.@" ++ c.n.x0)))), none, none, none, none, none, none, none, none, none, none, none, none, none, none]) (ev_for (ds := [.int 0, .int 1]) (ρ1 := clR c z [some (.fz (T (c.it0.map itD))), some (.fz (.lst [])), some (.lst []), none, none, none, none, none, none, none, none, none, none, none, none, none, none, none, none]) (by kernel_rfl) (ev_for1 rfl (B1_int c h z hz) (ev_for1 rfl (B1_arr c h z hz) rfl))) ?_
  refine seq_nx e2 ?_
  have hc := comp_all (vs := [22]) (b := gSet 22) (g := mFrz (oCallD c_u_law_marked (dsCons (mC (D.str (Str.ofString "l."))) (dsCons (mVar 22) dsNil)))) fD (fun f => fD (markF "l." f)) F0 (hinv0 [some (.fz (T (c.it0.map itD))), some (.fz (.lst ((giv0 c).map fD))), some (.lst [.fz (same0 c)]), some (.fz (.int 1)), some (.fz (fD (vr ("l.@" ++ c.n.x0)))), d11.map O.fz, d12.map O.fz, none, none, none, none, none, none, none, none, none, none, none, none]) rfl (by omega) (fun f hf => by
    obtain ⟨as', e, l⟩ := (h0 f hf).marked "l." (by decide)
    exact ⟨clR c z [some (.fz (T (c.it0.map itD))), some (.fz (.lst ((giv0 c).map fD))), some (.lst [.fz (same0 c)]), some (.fz (.int 1)), some (.fz (fD (vr ("l.@" ++ c.n.x0)))), d11.map O.fz, d12.map O.fz, none, none, none, none, none, none, none, none, none, some (.fz (fD f)), none, none], _, rfl, ev_frz (ev_callD (ds := [S "l.", fD f]) (ev_cons rfl (ev_one rfl)) e l) rfl, rfl⟩) rfl
  refine seq_nx (ρ1 := clR c z [some (.fz (T (c.it0.map itD))), some (.fz (.lst ((giv0 c ++ F0.map (markF "l.")).map fD))), some (.lst [.fz (same0 c)]), some (.fz (.int 1)), some (.fz (fD (vr ("l.@" ++ c.n.x0)))), d11.map O.fz, d12.map O.fz, none, none, none, none, none, none, none, none, none, none, none, none]) (ev_asg2 (o := .fz (.lst ((giv0 c ++ F0.map (markF "l.")).map fD))) (ev_fz (ev_op (x := .lst ((giv0 c).map fD)) rfl (ev_frz hc (frz_lst _)) (by rw [add_lst (by simp; omega)]; simp [Function.comp]))) rfl rfl) ?_
  refine seq_nx (ρ1 := clR c z [some (.fz (T (c.it0.map itD))), some (.fz (.lst ((giv0 c ++ F0.map (markF "l.")).map fD))), some (.lst [.fz (same0 c)]), some (.fz (.int 1)), some (.fz (fD (vr ("l.@" ++ c.n.x0)))), d11.map O.fz, d12.map O.fz, some (.fz (.lst (c.arrc.map S))), none, none, none, none, none, none, none, none, none, none, none]) ?_ ?_
  · have hh : iSeq (mOp2 dIx (mVar 3) (mC (D.int 1))) (clR c z [some (.fz (T (c.it0.map itD))), some (.fz (.lst ((giv0 c ++ F0.map (markF "l.")).map fD))), some (.lst [.fz (same0 c)]), some (.fz (.int 1)), some (.fz (fD (vr ("l.@" ++ c.n.x0)))), d11.map O.fz, d12.map O.fz, none, none, none, none, none, none, none, none, none, none, none, none]) = some (c.itc.map itD, clR c z [some (.fz (T (c.it0.map itD))), some (.fz (.lst ((giv0 c ++ F0.map (markF "l.")).map fD))), some (.lst [.fz (same0 c)]), some (.fz (.int 1)), some (.fz (fD (vr ("l.@" ++ c.n.x0)))), d11.map O.fz, d12.map O.fz, none, none, none, none, none, none, none, none, none, none, none, none]) := ev_seqT (ev_op (x := prD c.cv) rfl rfl (cvit c))
    rcases h.lg with ⟨hl, _⟩ | hl
    · rw [itc0 c hl] at hh
      refine ev_asg2 (o := .fz (.lst [S c.n.ac])) (ev_fz (ev_frz (ev_comp (ρ2 := clR c z [some (.fz (T (c.it0.map itD))), some (.fz (.lst ((giv0 c ++ F0.map (markF "l.")).map fD))), some (.lst [.fz (same0 c)]), some (.fz (.int 1)), some (.fz (fD (vr ("l.@" ++ c.n.x0)))), none, none, none, none, none, none, none, none, none, none, none, none, none, none]) (xs := [S c.n.ac]) hh (by cases d11 <;> cases d12 <;> rfl) (by kernel_rfl)) rfl)) rfl ?_
      rw [arr0 c hl]
      rfl
    · have hl : c.log = 1 := by rcases hl with ⟨z, _⟩ | ⟨z, _⟩ <;> exact z
      rw [itc1 c hl] at hh
      refine ev_asg2 (o := .fz (.lst [S c.n.ac, S c.n.wc])) (ev_fz (ev_frz (ev_comp (ρ2 := clR c z [some (.fz (T (c.it0.map itD))), some (.fz (.lst ((giv0 c ++ F0.map (markF "l.")).map fD))), some (.lst [.fz (same0 c)]), some (.fz (.int 1)), some (.fz (fD (vr ("l.@" ++ c.n.x0)))), none, none, none, none, none, none, none, none, none, none, none, none, none, none]) (xs := [S c.n.ac, S c.n.wc]) hh (by cases d11 <;> cases d12 <;> rfl) (by kernel_rfl)) rfl)) rfl ?_
      rw [arr1 c hl]
      rfl
  refine seq_nx (ρ1 := clR c z [some (.fz (T (c.it0.map itD))), some (.fz (.lst ((giv0 c ++ F0.map (markF "l.")).map fD))), some (.lst [.fz (same0 c)]), some (.fz (.int 1)), some (.fz (fD (vr ("l.@" ++ c.n.x0)))), d11.map O.fz, d12.map O.fz, some (.fz (.lst (c.arrc.map S))), some (.lst ([fD (vr ("r.." ++ "result.x"))].map .fz)), none, none, none, none, none, none, none, none, none, none]) (ev_asg2 (o := .lst [.fz (fD (vr ("r.." ++ "result.x")))]) (ev_comp (ρ2 := clR c z [some (.fz (T (c.it0.map itD))), some (.fz (.lst ((giv0 c ++ F0.map (markF "l.")).map fD))), some (.lst [.fz (same0 c)]), some (.fz (.int 1)), some (.fz (fD (vr ("l.@" ++ c.n.x0)))), d11.map O.fz, none, some (.fz (.lst (c.arrc.map S))), none, none, none, none, none, none, none, none, none, none, none]) (ds := [S "result.x"]) (xs := [fD (vr ("r.." ++ "result.x"))]) (ev_seqT (ev_op (x := prD c.cv) (y := .int 2) rfl rfl rfl)) (by cases d11 <;> cases d12 <;> rfl) (by kernel_rfl)) rfl rfl) ?_
  refine seq_nx e9 ?_
  refine seq_nx (ρ1 := clR c z [some (.fz (T (c.it0.map itD))), some (.fz (.lst ((giv0 c ++ F0.map (markF "l.")).map fD))), some (.lst [.fz (same0 c)]), some (.fz (.int 1)), some (.fz (fD (vr ("l.@" ++ c.n.x0)))), d11.map O.fz, d12.map O.fz, some (.fz (.lst (c.arrc.map S))), some (.lst (((fnd c).map fD).map .fz)), s15, s16, some (.fz (T (c.N1.map S))), none, none, none, none, none, none, none]) (ev_asg2 (o := .fz (T (c.N1.map S))) (ev_fz (ev_slice (ρ1 := clR c z [some (.fz (T (c.it0.map itD))), some (.fz (.lst ((giv0 c ++ F0.map (markF "l.")).map fD))), some (.lst [.fz (same0 c)]), some (.fz (.int 1)), some (.fz (fD (vr ("l.@" ++ c.n.x0)))), d11.map O.fz, d12.map O.fz, some (.fz (.lst (c.arrc.map S))), some (.lst (((fnd c).map fD).map .fz)), s15, s16, none, none, none, none, none, none, none, none]) (ρ2 := clR c z [some (.fz (T (c.it0.map itD))), some (.fz (.lst ((giv0 c ++ F0.map (markF "l.")).map fD))), some (.lst [.fz (same0 c)]), some (.fz (.int 1)), some (.fz (fD (vr ("l.@" ++ c.n.x0)))), d11.map O.fz, d12.map O.fz, some (.fz (.lst (c.arrc.map S))), some (.lst (((fnd c).map fD).map .fz)), s15, s16, none, none, none, none, none, none, none, none]) (ρ3 := clR c z [some (.fz (T (c.it0.map itD))), some (.fz (.lst ((giv0 c ++ F0.map (markF "l.")).map fD))), some (.lst [.fz (same0 c)]), some (.fz (.int 1)), some (.fz (fD (vr ("l.@" ++ c.n.x0)))), d11.map O.fz, d12.map O.fz, some (.fz (.lst (c.arrc.map S))), some (.lst (((fnd c).map fD).map .fz)), s15, s16, none, none, none, none, none, none, none, none]) (ev_frz (ev_callD (ds := [knD c.knc, S "putr"]) (ev_cons (ev_op (x := c.cores) (y := .int 1) rfl rfl rfl) (ev_one (ev_op (x := namesD "r" c.many) (ev_op (x := partD "r" c.log c.sh c.many) (ev_op (x := c.parts) (y := .int 1) rfl rfl rfl) rfl (part3 _ _ _ _)) rfl (part30 _ _ h.mn)))) eI lI) rfl) rfl (ev_some (i := 1 + (1 + c.log)) (by kernel_rfl)) (cut1 c h))) rfl rfl) ?_
  have hq : (List.range c.N1.length).map (fun i => T [S ("r." ++ c.N1.getD i ""), fD ((fnd c).getD i (0, []))]) = (qrs c).map qD := qrs_range c h
  have hN := N1_short c h
  have hfl := fnd_len c h
  have hcp := comp_all (gi := iRange1 (mFn fLen (dsCons (mVar 17) dsNil))) (vs := [9]) (b := gSet 9) (g := mTup (dsCons (mOp2 dAddG (mC (D.str (Str.ofString "r."))) (mOp2 dIx (mVar 17) (mVar 9))) (dsCons (mPeek (mOp2 dIx (mVar 14) (mVar 9))) dsNil))) (ρ := clR c z [some (.fz (T (c.it0.map itD))), some (.fz (.lst ((giv0 c ++ F0.map (markF "l.")).map fD))), some (.lst [.fz (same0 c)]), some (.fz (.int 1)), some (.fz (fD (vr ("l.@" ++ c.n.x0)))), d11.map O.fz, d12.map O.fz, some (.fz (.lst (c.arrc.map S))), some (.lst (((fnd c).map fD).map .fz)), s15, s16, some (.fz (T (c.N1.map S))), none, none, none, none, none, none, none]) (ρ1 := clR c z [some (.fz (T (c.it0.map itD))), some (.fz (.lst ((giv0 c ++ F0.map (markF "l.")).map fD))), some (.lst [.fz (same0 c)]), some (.fz (.int 1)), some (.fz (fD (vr ("l.@" ++ c.n.x0)))), d11.map O.fz, d12.map O.fz, some (.fz (.lst (c.arrc.map S))), some (.lst (((fnd c).map fD).map .fz)), s15, s16, some (.fz (T (c.N1.map S))), none, none, none, none, none, none, none])
    (fun (i : Nat) => D.int (0 + (i : Int))) (fun i => T [S ("r." ++ c.N1.getD i ""), fD ((fnd c).getD i (0, []))]) (List.range c.N1.length) (ev_rng (j := (c.N1.length : Int)) (by simp only [clR]; exact ev_fn (ev_one rfl) (by show some (D.int ((c.N1.map S).length : Int)) = _; rw [List.length_map])) (inRange_ok (by omega)) rfl) rfl (by simp; omega) (fun i hi => by
      have hi : i < c.N1.length := List.mem_range.mp hi
      have hi2 : i < (fnd c).length := by omega
      have e1 : dIx (T (c.N1.map S)) (.int (0 + (i : Int))) = some (S (c.N1.getD i "")) := atI_nat (by simp [hi])
      have e2 : dIx (.lst ((fnd c).map fD)) (.int (0 + (i : Int))) = some (fD ((fnd c).getD i (0, []))) := atI_nat (by simp [hi2])
      have e3 : (c.N1.getD i "").length ≤ 10 := hN _ (by simp [hi])
      exact ⟨clR c z [some (.fz (T (c.it0.map itD))), some (.fz (.lst ((giv0 c ++ F0.map (markF "l.")).map fD))), some (.lst [.fz (same0 c)]), some (.fz (.int (0 + (i : Int)))), some (.fz (fD (vr ("l.@" ++ c.n.x0)))), d11.map O.fz, d12.map O.fz, some (.fz (.lst (c.arrc.map S))), some (.lst (((fnd c).map fD).map .fz)), s15, s16, some (.fz (T (c.N1.map S))), none, none, none, none, none, none, none], _, rfl, ev_tup (ev_cons (ev_op (x := S "r.") rfl (ev_op (x := T (c.N1.map S)) (y := .int (0 + (i : Int))) rfl rfl e1) (dotN e3)) (ev_one (ev_peek (ev_op (x := .lst ((fnd c).map fD)) (y := .int (0 + (i : Int))) (ev_view (o := .lst (((fnd c).map fD).map .fz)) rfl (frz_lst _)) (ev_view (o := .fz (.int (0 + (i : Int)))) rfl rfl) e2) (imm_fD _)))) two_le, rfl⟩) rfl
  rw [hq] at hcp
  refine seq_nx (ρ1 := clR c z [some (.fz (T (c.it0.map itD))), some (.fz (.lst ((giv0 c ++ F0.map (markF "l.")).map fD))), some (.lst [.fz (same0 c)]), some (.fz (.int 1)), some (.fz (fD (vr ("l.@" ++ c.n.x0)))), d11.map O.fz, d12.map O.fz, some (.fz (.lst (c.arrc.map S))), some (.lst (((fnd c).map fD).map .fz)), s15, s16, some (.fz (T (c.N1.map S))), some (.fz (.lst ((qrs c).map qD))), none, none, none, none, none, none]) (ev_asg2 (o := .fz (.lst ((qrs c).map qD))) (ev_fz (ev_frz hcp (frz_lst _))) rfl rfl) ?_
  have hc3 := comp_all (gi := iSeq (mOp2 dIx (mVar 5) (mC (D.int 0)))) (vs := [22]) (b := gSet 22) (g := mFrz (oCallD c_image (dsCons (mVar 22) (dsCons (mVar 18) dsNil)))) (ρ := clR c z [some (.fz (T (c.it0.map itD))), some (.fz (.lst ((giv0 c ++ F0.map (markF "l.")).map fD))), some (.lst [.fz (same0 c)]), some (.fz (.int 1)), some (.fz (fD (vr ("l.@" ++ c.n.x0)))), d11.map O.fz, d12.map O.fz, some (.fz (.lst (c.arrc.map S))), some (.lst (((fnd c).map fD).map .fz)), s15, s16, some (.fz (T (c.N1.map S))), some (.fz (.lst ((qrs c).map qD))), none, none, none, none, none, none]) (ρ1 := clR c z [some (.fz (T (c.it0.map itD))), some (.fz (.lst ((giv0 c ++ F0.map (markF "l.")).map fD))), some (.lst [.fz (same0 c)]), some (.fz (.int 1)), some (.fz (fD (vr ("l.@" ++ c.n.x0)))), d11.map O.fz, d12.map O.fz, some (.fz (.lst (c.arrc.map S))), some (.lst (((fnd c).map fD).map .fz)), s15, s16, some (.fz (T (c.N1.map S))), some (.fz (.lst ((qrs c).map qD))), none, none, none, none, none, none]) fD (fun f => fD (imgF (qrs c) f)) R (ev_seqT (ev_op (x := rel) (y := .int 0) rfl rfl rfl)) rfl (by omega) (fun f hf => by
    obtain ⟨as', e, l⟩ := (hR f hf).image c h
    exact ⟨clR c z [some (.fz (T (c.it0.map itD))), some (.fz (.lst ((giv0 c ++ F0.map (markF "l.")).map fD))), some (.lst [.fz (same0 c)]), some (.fz (.int 1)), some (.fz (fD (vr ("l.@" ++ c.n.x0)))), d11.map O.fz, d12.map O.fz, some (.fz (.lst (c.arrc.map S))), some (.lst (((fnd c).map fD).map .fz)), s15, s16, some (.fz (T (c.N1.map S))), some (.fz (.lst ((qrs c).map qD))), none, none, none, some (.fz (fD f)), none, none], _, rfl, ev_frz (ev_callD (ds := [fD f, .lst ((qrs c).map qD)]) (ev_cons rfl (ev_one rfl)) e l) rfl, rfl⟩) rfl
  refine seq_nx (ρ1 := clR c z [some (.fz (T (c.it0.map itD))), some (.fz (.lst ((giv0 c ++ F0.map (markF "l.")).map fD))), some (.lst [.fz (same0 c)]), some (.fz (.int 1)), some (.fz (fD (vr ("l.@" ++ c.n.x0)))), d11.map O.fz, d12.map O.fz, some (.fz (.lst (c.arrc.map S))), some (.lst (((fnd c).map fD).map .fz)), s15, s16, some (.fz (T (c.N1.map S))), some (.fz (.lst ((qrs c).map qD))), some (.fz (.lst ((R.map (imgF (qrs c))).map fD))), none, none, none, none, none]) (ev_asg2 (o := .fz (.lst ((R.map (imgF (qrs c))).map fD))) (ev_fz (ev_frz hc3 (by rw [frz_lst]; simp [Function.comp]))) rfl rfl) ?_
  have hc5 := comp_all (vs := [22]) (b := gSet 22) (g := mFrz (oCallD c_image (dsCons (mFrz (oCallD c_u_law_marked (dsCons (mC (D.str (Str.ofString "r."))) (dsCons (mVar 22) dsNil)))) (dsCons (mVar 18) dsNil)))) fD (fun f => fD (imgF (qrs c) (markF "r." f))) F1 (hinv1 [some (.fz (T (c.it0.map itD))), some (.fz (.lst ((giv0 c ++ F0.map (markF "l.")).map fD))), some (.lst [.fz (same0 c)]), some (.fz (.int 1)), some (.fz (fD (vr ("l.@" ++ c.n.x0)))), d11.map O.fz, d12.map O.fz, some (.fz (.lst (c.arrc.map S))), some (.lst (((fnd c).map fD).map .fz)), s15, s16, some (.fz (T (c.N1.map S))), some (.fz (.lst ((qrs c).map qD))), some (.fz (.lst ((R.map (imgF (qrs c))).map fD))), none, none, none, none, none]) rfl (by omega) (fun f hf => by
    obtain ⟨as1, e1, l1⟩ := (h1 f hf).marked "r." (by decide)
    obtain ⟨as', e, l⟩ := imageM f (h1 f hf) "r." c h
    exact ⟨clR c z [some (.fz (T (c.it0.map itD))), some (.fz (.lst ((giv0 c ++ F0.map (markF "l.")).map fD))), some (.lst [.fz (same0 c)]), some (.fz (.int 1)), some (.fz (fD (vr ("l.@" ++ c.n.x0)))), d11.map O.fz, d12.map O.fz, some (.fz (.lst (c.arrc.map S))), some (.lst (((fnd c).map fD).map .fz)), s15, s16, some (.fz (T (c.N1.map S))), some (.fz (.lst ((qrs c).map qD))), some (.fz (.lst ((R.map (imgF (qrs c))).map fD))), none, none, some (.fz (fD f)), none, none], _, rfl, ev_frz (ev_callD (ds := [fD (markF "r." f), .lst ((qrs c).map qD)]) (ev_cons (ev_frz (ev_callD (ds := [S "r.", fD f]) (ev_cons rfl (ev_one rfl)) e1 l1) rfl) (ev_one rfl)) e l) rfl, rfl⟩) rfl
  refine seq_nx (ρ1 := clR c z [some (.fz (T (c.it0.map itD))), some (.fz (.lst ((giv0 c ++ F0.map (markF "l.")).map fD))), some (.lst [.fz (same0 c)]), some (.fz (.int 1)), some (.fz (fD (vr ("l.@" ++ c.n.x0)))), d11.map O.fz, d12.map O.fz, some (.fz (.lst (c.arrc.map S))), some (.lst (((fnd c).map fD).map .fz)), s15, s16, some (.fz (T (c.N1.map S))), some (.fz (.lst ((qrs c).map qD))), some (.fz (.lst (((R ++ F1.map (markF "r.")).map (imgF (qrs c))).map fD))), none, none, none, none, none]) (ev_asg2 (o := .fz (.lst (((R ++ F1.map (markF "r.")).map (imgF (qrs c))).map fD))) (ev_fz (ev_op (x := .lst ((R.map (imgF (qrs c))).map fD)) rfl (ev_frz hc5 (frz_lst _)) (by rw [add_lst (by simp; omega)]; simp [Function.comp]))) rfl rfl) ?_
  refine seq_nx (ρ1 := clR c z [some (.fz (T (c.it0.map itD))), some (.fz (.lst ((giv0 c ++ F0.map (markF "l.")).map fD))), some (.lst [.fz (same0 c)]), some (.fz (.int 1)), some (.fz (fD (vr ("l.@" ++ c.n.x0)))), d11.map O.fz, d12.map O.fz, some (.fz (.lst (c.arrc.map S))), some (.lst (((fnd c).map fD).map .fz)), s15, s16, some (.fz (T (c.N1.map S))), some (.fz (.lst ((qrs c).map qD))), some (.fz (.lst (((R ++ F1.map (markF "r.")).map (imgF (qrs c))).map fD))), some (.fz (.lst [S c.n.a0])), none, none, none, none]) (ev_asg2 (o := .fz (.lst [S c.n.a0])) (ev_fz (ev_frz (ev_comp (ρ2 := clR c z [some (.fz (T (c.it0.map itD))), some (.fz (.lst ((giv0 c ++ F0.map (markF "l.")).map fD))), some (.lst [.fz (same0 c)]), some (.fz (.int 1)), some (.fz (fD (vr ("l.@" ++ c.n.x0)))), none, none, some (.fz (.lst (c.arrc.map S))), some (.lst (((fnd c).map fD).map .fz)), s15, s16, some (.fz (T (c.N1.map S))), some (.fz (.lst ((qrs c).map qD))), some (.fz (.lst (((R ++ F1.map (markF "r.")).map (imgF (qrs c))).map fD))), none, none, none, none, none]) (ds := [itD (false, c.n.x0), itD (true, c.n.a0)]) (xs := [S c.n.a0]) rfl (by cases d11 <;> cases d12 <;> rfl) (by kernel_rfl)) rfl)) rfl rfl) ?_
  have hc4 := comp_all (gi := iSeq (mOp2 dIx (mVar 5) (mC (D.int 1)))) (vs := [10, 23]) (b := gTupD 2 (gsCons (gSet 10) (gsCons (gSet 23) gsNil))) (g := mTup (dsCons (mOp2 dIx (mVar 20) (mVar 10)) (dsCons (mOp2 dIx (mVar 13) (mOp2 dIx (mOp2 dIx (mVar 4) (mC (D.int 1))) (mVar 23))) dsNil))) (ρ := clR c z [some (.fz (T (c.it0.map itD))), some (.fz (.lst ((giv0 c ++ F0.map (markF "l.")).map fD))), some (.lst [.fz (same0 c)]), some (.fz (.int 1)), some (.fz (fD (vr ("l.@" ++ c.n.x0)))), d11.map O.fz, d12.map O.fz, some (.fz (.lst (c.arrc.map S))), some (.lst (((fnd c).map fD).map .fz)), s15, s16, some (.fz (T (c.N1.map S))), some (.fz (.lst ((qrs c).map qD))), some (.fz (.lst (((R ++ F1.map (markF "r.")).map (imgF (qrs c))).map fD))), some (.fz (.lst [S c.n.a0])), none, none, none, none]) (ρ1 := clR c z [some (.fz (T (c.it0.map itD))), some (.fz (.lst ((giv0 c ++ F0.map (markF "l.")).map fD))), some (.lst [.fz (same0 c)]), some (.fz (.int 1)), some (.fz (fD (vr ("l.@" ++ c.n.x0)))), d11.map O.fz, d12.map O.fz, some (.fz (.lst (c.arrc.map S))), some (.lst (((fnd c).map fD).map .fz)), s15, s16, some (.fz (T (c.N1.map S))), some (.fz (.lst ((qrs c).map qD))), some (.fz (.lst (((R ++ F1.map (markF "r.")).map (imgF (qrs c))).map fD))), some (.fz (.lst [S c.n.a0])), none, none, none, none]) arD (keepDD c) ar (ev_seqT (ev_op (x := rel) (y := .int 1) rfl rfl rfl)) rfl (by omega) (fun k hk => by
    obtain ⟨p, hp1, hp2⟩ := keep_at c h k (har k hk)
    exact ⟨clR c z [some (.fz (T (c.it0.map itD))), some (.fz (.lst ((giv0 c ++ F0.map (markF "l.")).map fD))), some (.lst [.fz (same0 c)]), some (.fz (.int 1)), some (.fz (.int 0)), d11.map O.fz, d12.map O.fz, some (.fz (.lst (c.arrc.map S))), some (.lst (((fnd c).map fD).map .fz)), s15, s16, some (.fz (T (c.N1.map S))), some (.fz (.lst ((qrs c).map qD))), some (.fz (.lst (((R ++ F1.map (markF "r.")).map (imgF (qrs c))).map fD))), some (.fz (.lst [S c.n.a0])), none, none, some (.fz (.int (k : Int))), none], _, rfl, ev_tup (ev_cons (ev_op (x := .lst [S c.n.a0]) (y := .int 0) rfl rfl rfl) (ev_one (ev_op (x := .lst (c.arrc.map S)) rfl (ev_op (x := T ((cvPl c.log c.sw).map .int)) (y := .int (k : Int)) (ev_op (x := cvD c) (y := .int 1) rfl rfl rfl) rfl hp1) hp2))) two_le, rfl⟩) rfl
  refine seq_nx (ρ1 := clR c z [some (.fz (T (c.it0.map itD))), some (.fz (.lst ((giv0 c ++ F0.map (markF "l.")).map fD))), some (.lst [.fz (same0 c)]), some (.fz (.int 1)), some (.fz (fD (vr ("l.@" ++ c.n.x0)))), d11.map O.fz, d12.map O.fz, some (.fz (.lst (c.arrc.map S))), some (.lst (((fnd c).map fD).map .fz)), s15, s16, some (.fz (T (c.N1.map S))), some (.fz (.lst ((qrs c).map qD))), some (.fz (.lst (((R ++ F1.map (markF "r.")).map (imgF (qrs c))).map fD))), some (.fz (.lst [S c.n.a0])), some (.fz (.lst (ar.map (keepDD c)))), none, none, none]) (ev_asg2 (o := .fz (.lst (ar.map (keepDD c)))) (ev_fz (ev_frz hc4 (frz_lst _))) rfl rfl) ?_
  refine ev_ret (ev_fz (ev_tup (ev_cons rfl (ev_cons (d := S "cv") rfl (ev_cons (ev_fn (ev_one rfl) rfl) (ev_cons (ev_peek (ev_fn (ev_one (ev_view (o := .lst [.fz (same0 c)]) rfl rfl)) rfl) rfl) (ev_cons (ev_fn (ev_one rfl) rfl) (ev_one (ev_fn (ev_one rfl) rfl))))))) (small (by simp))))
end Hd
set_option Elab.async false
set_option linter.all false
set_option maxRecDepth 100000
set_option maxHeartbeats 4000000
set_option autoImplicit false
/-! P36r: is_converter, the faults. -/
namespace Hd
open PySem PySem.Spec L2 PI
local macro_rules | `(tactic| get_elem_tactic_trivial) => `(tactic| (repeat' (first
  | with_reducible assumption
  | with_reducible apply seq_rt
  | with_reducible apply seq_nx
  | with_reducible apply ev_ret
  | with_reducible apply ev_asg2
  | with_reducible apply ev_append2
  | with_reducible apply ev_extend2
  | with_reducible apply ev_unp
  | with_reducible apply ev_aug2
  | with_reducible apply ev_fz
  | with_reducible apply ev_tup
  | with_reducible apply ev_lst
  | with_reducible apply ev_cons
  | with_reducible apply ev_op
  | with_reducible apply ev_op1
  | with_reducible apply ev_fn
  | with_reducible apply ev_frz
  | with_reducible apply ev_b
  | with_reducible apply ev_if
  | with_reducible apply ev_not
  | with_reducible apply ev_aCons
  | with_reducible apply ev_aLend
  | with_reducible apply ev_callD
  | with_reducible apply ev_call2
  | with_reducible exact add_str (by assumption)
  | assumption
  | exact two_le
  | dsimp only
  | exact rfl
  | exact small (by simp)
  | decide)))
def pairD (c : Cs) (right I0 I1 : D) : D := .obj 0 ["cores", "parts", "invariants"] [T [knD c.kn0, right], c.parts, T [I0, I1]]
theorem conv_true (c : Cs) (h : CsOk c) (I0 I1 : D) : c_is_converter [.fz (c.pair I0 I1), .fz (cvD c)] = some (.fz (.bl true), [some (.fz (c.pair I0 I1)), some (.fz (cvD c))]) := by
  obtain ⟨log, sw, sh, by_, many, tst, n, k0, w0, t0, i0, k1, t1, i1⟩ := c
  have hl : LogOk log sw := h.lg
  have hm : many = 1 ∨ many = 2 ∨ many = 3 := h.mn
  clear h
  rcases hl with ⟨rfl, rfl⟩ | ⟨rfl, rfl⟩ | ⟨rfl, rfl⟩ <;> rcases hm with rfl | rfl | rfl <;> kernel_rfl
/-- the converter with another list of parameters, results, needs -/
def cvW (c : Cs) (its : List D) (rs : List D) (nd : List D) : D := T [S "cv", T its, T rs, T [T [S "int", S c.n.tc]], T nd, T [], T [], T [], cvB c.tst c.n.xc c.n.tc c.sh]
def needD (c : Cs) : D := T [.int 0, T [T [S ("@" ++ c.n.xc), .int 1]]]
def itsD (c : Cs) : List D := c.itc.map itD
def plI (c : Cs) : List Int := cvPl c.log c.sw
def odds (c : Cs) : List D := [T [S "cvz", T ((plI c).map .int)], T [S "cv"], T [S "cv", T ((plI c).map .int), .int 0], .int 0, T [], S "cv", T [.int 0, T ((plI c).map .int)]]
def odds2 (c : Cs) : List D := [T (((plI c).drop 1).map .int), T ((plI c ++ [0]).map .int), T ((plI c ++ [((plI c).length : Int)]).map .int), T ((7 :: (plI c).drop 1).map .int), T ((-1 :: (plI c).drop 1).map .int), .int 0]
def flts (c : Cs) : List (D × D) := (odds c).map (fun o => (prD c.cv, o)) ++ (odds2 c).map (fun o => (prD c.cv, T [S "cv", o])) ++
  [(cvW c (itsD c) [S "result.x"] [needD c], cvD c), (cvW c (itsD c ++ [T [S "int", S "z_z"]]) [S "result.x"] [], cvD c), (cvW c ((itsD c).take 1) [S "result.x"] [], cvD c), (cvW c (itsD c) [S "result.x", S "result.z"] [], cvD c), (cvW c (itsD c) [] [], cvD c)]
def ftD (q : D × D) : D := T [q.1, q.2]
theorem lenA : ("@" : Str).length = 1 := by decide
def fstR (c : Cs) (s : Option O) (n : Nat) : Rho := [some (.fz (prD c.cv)), some (.fz (cvD c)), some (.fz (S "cv")), some (.fz (T ((plI c).map .int))), some (.lst ((((flts c).take n).map ftD).map .fz)), s]
theorem faults_ok (c : Cs) (h : CsOk c) : ∃ as', c_u_law_faults [.fz (prD c.cv), .fz (cvD c)] = some (.lst (((flts c).map ftD).map .fz), as') ∧ as'.length = 2 := by
  have hx : dAddG (S (Str.ofString "@")) (S c.n.xc) = some (S ("@" ++ c.n.xc)) := add_str (by
    have := h.nm.l5
    have : (Str.ofString "@").length = 1 := by decide
    omega)
  refine ⟨_, ev_run (ρ' := [some (.fz (prD c.cv)), some (.fz (cvD c)), some (.fz (S "cv")), some (.fz (T ((plI c).map .int))), none, some (.fz (.int 0))]) ?_ rfl rfl rfl, rfl⟩
  unfold der_u_law_faults
  dsimp only
  refine seq_nx (ρ1 := [some (.fz (prD c.cv)), some (.fz (cvD c)), some (.fz (S "cv")), some (.fz (T ((plI c).map .int))), none, none]) (by clear hx; obtain ⟨log, sw, sh, by_, many, tst, n, k0, w0, t0, i0, k1, t1, i1⟩ := c; rcases (h.lg : LogOk log sw) with ⟨rfl, rfl⟩ | ⟨rfl, rfl⟩ | ⟨rfl, rfl⟩ <;> clear h <;> kernel_rfl) ?_
  refine seq_nx (ρ1 := fstR c none 7) (by clear hx; obtain ⟨log, sw, sh, by_, many, tst, n, k0, w0, t0, i0, k1, t1, i1⟩ := c; rcases (h.lg : LogOk log sw) with ⟨rfl, rfl⟩ | ⟨rfl, rfl⟩ | ⟨rfl, rfl⟩ <;> clear h <;> kernel_rfl) ?_
  refine seq_nx (ρ1 := fstR c (some (.fz (.int 0))) 13) (by clear hx; obtain ⟨log, sw, sh, by_, many, tst, n, k0, w0, t0, i0, k1, t1, i1⟩ := c; rcases (h.lg : LogOk log sw) with ⟨rfl, rfl⟩ | ⟨rfl, rfl⟩ | ⟨rfl, rfl⟩ <;> clear h <;> kernel_rfl) ?_
  refine seq_nx (ρ1 := fstR c (some (.fz (.int 0))) 14) ?_ ?_
  · have hi : ∀ ρ : Rho, ρ[0]? = some (some (.fz (prD c.cv))) → mOp2 dIx (mOp2 dIx (mOp2 dIx (mVar 0) (mC (D.int 1))) (mC (D.int 0))) (mC (D.int 1)) ρ = some (S c.n.xc, ρ) := fun ρ hρ => by
      have : mVar 0 ρ = some (prD c.cv, ρ) := by unfold mVar; rw [hρ]
      exact ev_op (x := itD (false, c.n.xc)) (ev_op (ev_op this rfl (cvit c)) rfl (by obtain ⟨r, hr⟩ := itcH c; rw [hr]; exact ix0)) rfl rfl
    have ha : mSlice (mVar 0) pNone (pSome (mC (D.int 4))) (fstR c (some (.fz (.int 0))) 13) = some (T [S "cv", T (itsD c), T [S "result.x"], T [T [S "int", S c.n.tc]]], fstR c (some (.fz (.int 0))) 13) := (by clear hx; obtain ⟨log, sw, sh, by_, many, tst, n, k0, w0, t0, i0, k1, t1, i1⟩ := c; rcases (h.lg : LogOk log sw) with ⟨rfl, rfl⟩ | ⟨rfl, rfl⟩ | ⟨rfl, rfl⟩ <;> clear h <;> kernel_rfl)
    have hb : mSlice (mVar 0) (pSome (mC (D.int 5))) pNone (fstR c (some (.fz (.int 0))) 13) = some (T [T [], T [], T [], cvB c.tst c.n.xc c.n.tc c.sh], fstR c (some (.fz (.int 0))) 13) := (by clear hx; obtain ⟨log, sw, sh, by_, many, tst, n, k0, w0, t0, i0, k1, t1, i1⟩ := c; rcases (h.lg : LogOk log sw) with ⟨rfl, rfl⟩ | ⟨rfl, rfl⟩ | ⟨rfl, rfl⟩ <;> clear h <;> kernel_rfl)
    refine ev_append2 (ρ1 := fstR c (some (.fz (.int 0))) 13) (os0 := (((flts c).take 13).map ftD).map .fz) (os := (((flts c).take 13).map ftD).map .fz) (o := .fz (ftD (cvW c (itsD c) [S "result.x"] [needD c], cvD c))) rfl ?_ rfl ?_ (by clear hx; obtain ⟨log, sw, sh, by_, many, tst, n, k0, w0, t0, i0, k1, t1, i1⟩ := c; rcases (h.lg : LogOk log sw) with ⟨rfl, rfl⟩ | ⟨rfl, rfl⟩ | ⟨rfl, rfl⟩ <;> clear h <;> kernel_rfl)
    · refine ev_fz (ev_tup (ev_cons (ev_op (x := T [S "cv", T (itsD c), T [S "result.x"], T [T [S "int", S c.n.tc]], T [needD c]]) (ev_op (y := T [T [needD c]]) ha (ev_tup (ds := [T [needD c]]) (ev_one (ev_tup (ds := [needD c]) (ev_one (ev_tup (ev_cons rfl (ev_one (ev_tup (ev_one (ev_tup (ev_cons (ev_op (y := S c.n.xc) rfl (hi _ rfl) hx) (ev_one rfl)) two_le)) (small (by simp))))) two_le)) (small (by simp)))) (small (by simp))) rfl) hb rfl) (ev_one rfl)) two_le)
    · have := size1000
      simp
      omega
  refine seq_nx (ρ1 := fstR c (some (.fz (.int 0))) 15) (by clear hx; obtain ⟨log, sw, sh, by_, many, tst, n, k0, w0, t0, i0, k1, t1, i1⟩ := c; rcases (h.lg : LogOk log sw) with ⟨rfl, rfl⟩ | ⟨rfl, rfl⟩ | ⟨rfl, rfl⟩ <;> clear h <;> kernel_rfl) ?_
  refine seq_nx (ρ1 := fstR c (some (.fz (.int 0))) 16) (by clear hx; obtain ⟨log, sw, sh, by_, many, tst, n, k0, w0, t0, i0, k1, t1, i1⟩ := c; rcases (h.lg : LogOk log sw) with ⟨rfl, rfl⟩ | ⟨rfl, rfl⟩ | ⟨rfl, rfl⟩ <;> clear h <;> kernel_rfl) ?_
  refine seq_nx (ρ1 := fstR c (some (.fz (.int 0))) 17) (by clear hx; obtain ⟨log, sw, sh, by_, many, tst, n, k0, w0, t0, i0, k1, t1, i1⟩ := c; rcases (h.lg : LogOk log sw) with ⟨rfl, rfl⟩ | ⟨rfl, rfl⟩ | ⟨rfl, rfl⟩ <;> clear h <;> kernel_rfl) ?_
  refine seq_nx (ρ1 := fstR c (some (.fz (.int 0))) 18) (by clear hx; obtain ⟨log, sw, sh, by_, many, tst, n, k0, w0, t0, i0, k1, t1, i1⟩ := c; rcases (h.lg : LogOk log sw) with ⟨rfl, rfl⟩ | ⟨rfl, rfl⟩ | ⟨rfl, rfl⟩ <;> clear h <;> kernel_rfl) ?_
  exact (by clear hx; obtain ⟨log, sw, sh, by_, many, tst, n, k0, w0, t0, i0, k1, t1, i1⟩ := c; rcases (h.lg : LogOk log sw) with ⟨rfl, rfl⟩ | ⟨rfl, rfl⟩ | ⟨rfl, rfl⟩ <;> clear h <;> kernel_rfl)
theorem ne_nil {d : D} (h : okD 20 d = true) : dNeD (T [d]) (T []) = some (.bl true) := by
  obtain ⟨p, e1, e2, e3⟩ := okD_py d 20 h
  have hp : (T [d] : D).py = some (.tuple [p]) := by simp [D.py, D.pys, e1]
  have hs : SeqAt.shaped (.tuple [p]) = true := by
    unfold SeqAt.shaped
    have : PyData.canLay0 (.tuple [p]) = true := by simp [PyData.canLay0, PyData.canLayAll0, e2]
    rw [this, Bool.true_and]
    refine decide_eq_true ?_
    simp [PyData.depth, PyData.depthAll]
    omega
  have hs2 : SeqAt.shaped (.tuple []) = true := by decide +kernel
  have e4 : dEq (T [d]) (T []) = some false := by
    show (match (T [d] : D).py, (T [] : D).py with
      | some p, some q => (match SeqAt.shaped p && SeqAt.shaped q with
        | true => some (PyData.eqv p q)
        | false => none)
      | _, _ => none) = _
    rw [hp]
    show (match SeqAt.shaped (.tuple [p]) && SeqAt.shaped (.tuple []) with
        | true => some (PyData.eqv (.tuple [p]) (.tuple []))
        | false => none) = _
    rw [hs, hs2]
    simp [PyData.eqv, PyData.eqvAll]
  unfold dNeD
  rw [e4]
  rfl
theorem strOk_at {s : Str} (h : PyData.strOk s = true) : PyData.strOk ("@" ++ s) = true := by
  unfold PyData.strOk at h ⊢
  show (("@" : Str).cps ++ s.cps).all _ = true
  rw [Array.all_append, h]
  decide +kernel
def spD2 (c : Cs) (o I0 I1 : D) : D := pairD c (T (o :: c.kn1.map fun q => prD q.1)) I0 I1
def icR (c : Cs) (p d I0 I1 : D) (r : List (Option O)) : Rho := some (.fz (spD2 c p I0 I1)) :: some (.fz d) :: r
theorem conv_need (c : Cs) (h : CsOk c) (I0 I1 : D) : c_is_converter [.fz (spD2 c (cvW c (itsD c) [S "result.x"] [needD c]) I0 I1), .fz (cvD c)] = some (.fz (.bl false), [some (.fz (spD2 c (cvW c (itsD c) [S "result.x"] [needD c]) I0 I1)), some (.fz (cvD c))]) := by
  have hok : okD 20 (needD c) = true := by
    have := strOk_at h.nm.sx
    simp [needD, okD, okDs, this]
  have hne := ne_nil hok
  let W := cvW c (itsD c) [S "result.x"] [needD c]
  let p0 := partD "l" 0 0 c.many
  let p1 := partD "r" c.log c.sh c.many
  let kd : D := .lst (c.itc.map fun i => S (kindS i.1))
  refine ev_run (ρ' := icR c W (cvD c) I0 I1 [some (.fz p0), some (.fz p1), some (.fz W), some (.fz kd), none, none, none]) ?_ rfl rfl rfl
  unfold der_is_converter
  dsimp only
  refine seq_nx (ρ1 := icR c W (cvD c) I0 I1 [none, none, none, none, none, none, none]) (by obtain ⟨log, sw, sh, by_, many, tst, n, k0, w0, t0, i0, k1, t1, i1⟩ := c; rcases (h.lg : LogOk log sw) with ⟨rfl, rfl⟩ | ⟨rfl, rfl⟩ | ⟨rfl, rfl⟩ <;> rcases (h.mn : many = 1 ∨ many = 2 ∨ many = 3) with rfl | rfl | rfl <;> clear h <;> kernel_rfl) ?_
  refine seq_nx (ρ1 := icR c W (cvD c) I0 I1 [some (.fz p0), some (.fz p1), none, none, none, none, none]) (by obtain ⟨log, sw, sh, by_, many, tst, n, k0, w0, t0, i0, k1, t1, i1⟩ := c; rcases (h.lg : LogOk log sw) with ⟨rfl, rfl⟩ | ⟨rfl, rfl⟩ | ⟨rfl, rfl⟩ <;> rcases (h.mn : many = 1 ∨ many = 2 ∨ many = 3) with rfl | rfl | rfl <;> clear h <;> kernel_rfl) ?_
  refine seq_nx (ρ1 := icR c W (cvD c) I0 I1 [some (.fz p0), some (.fz p1), some (.fz W), none, none, none, none]) (by obtain ⟨log, sw, sh, by_, many, tst, n, k0, w0, t0, i0, k1, t1, i1⟩ := c; rcases (h.lg : LogOk log sw) with ⟨rfl, rfl⟩ | ⟨rfl, rfl⟩ | ⟨rfl, rfl⟩ <;> rcases (h.mn : many = 1 ∨ many = 2 ∨ many = 3) with rfl | rfl | rfl <;> clear h <;> kernel_rfl) ?_
  refine seq_nx (ρ1 := icR c W (cvD c) I0 I1 [some (.fz p0), some (.fz p1), some (.fz W), some (.fz kd), none, none, none]) (by obtain ⟨log, sw, sh, by_, many, tst, n, k0, w0, t0, i0, k1, t1, i1⟩ := c; rcases (h.lg : LogOk log sw) with ⟨rfl, rfl⟩ | ⟨rfl, rfl⟩ | ⟨rfl, rfl⟩ <;> rcases (h.mn : many = 1 ∨ many = 2 ∨ many = 3) with rfl | rfl | rfl <;> clear h <;> kernel_rfl) ?_
  exact seq_rt (ev_if (k := true) (ev_b (ev_op (x := T [needD c]) (y := T []) (ev_op (x := W) (y := .int 4) rfl rfl rfl) rfl hne)) rfl)
theorem conv_false (c : Cs) (h : CsOk c) (I0 I1 : D) : ∀ q ∈ flts c, ∃ as', c_is_converter [.fz (spD2 c q.1 I0 I1), .fz q.2] = some (.fz (.bl false), as') ∧ as'.length = 2 := by
  intro q hq
  refine ⟨[some (.fz (spD2 c q.1 I0 I1)), some (.fz q.2)], ?_, rfl⟩
  simp only [flts, odds, odds2, List.map_cons, List.map_nil, List.mem_append, List.mem_cons, List.not_mem_nil, or_false] at hq
  rcases hq with ((hq | hq | hq | hq | hq | hq | hq) | (hq | hq | hq | hq | hq | hq)) | (hq | hq | hq | hq | hq)
  case inr.inl => subst hq; exact conv_need c h I0 I1
  all_goals
    subst hq
    exact (by obtain ⟨log, sw, sh, by_, many, tst, n, k0, w0, t0, i0, k1, t1, i1⟩ := c; rcases (h.lg : LogOk log sw) with ⟨rfl, rfl⟩ | ⟨rfl, rfl⟩ | ⟨rfl, rfl⟩ <;> rcases (h.mn : many = 1 ∨ many = 2 ∨ many = 3) with rfl | rfl | rfl <;> clear h <;> kernel_rfl)
end Hd
set_option Elab.async false
set_option linter.all false
set_option maxRecDepth 100000
set_option maxHeartbeats 4000000
set_option autoImplicit false
/-! P36q: the law, its draws. -/
namespace Hd
open PySem PySem.Spec L2 PI
local macro_rules | `(tactic| get_elem_tactic_trivial) => `(tactic| (repeat' (first
  | with_reducible assumption
  | with_reducible apply seq_rt
  | with_reducible apply seq_nx
  | with_reducible apply ev_ret
  | with_reducible apply ev_asg2
  | with_reducible apply ev_append2
  | with_reducible apply ev_extend2
  | with_reducible apply ev_unp
  | with_reducible apply ev_aug2
  | with_reducible apply ev_fz
  | with_reducible apply ev_tup
  | with_reducible apply ev_lst
  | with_reducible apply ev_cons
  | with_reducible apply ev_op
  | with_reducible apply ev_op1
  | with_reducible apply ev_fn
  | with_reducible apply ev_frz
  | with_reducible apply ev_b
  | with_reducible apply ev_if
  | with_reducible apply ev_not
  | with_reducible apply ev_aCons
  | with_reducible apply ev_aLend
  | with_reducible apply ev_callD
  | with_reducible apply ev_call2
  | with_reducible exact add_str (by assumption)
  | assumption
  | exact two_le
  | dsimp only
  | exact rfl
  | exact small (by simp)
  | decide)))
theorem start_ok (ns : List Int) (h : ns.length ≤ 63) : c_u_law_start [.fz (.rol (ns.map .int))] = some (stO ns 0 0 0, [some (.fz (.rol (ns.map .int)))]) := by
  have h2 : ns.length ≤ sizeLine := Nat.le_trans h (by decide)
  have h4 : decide (4 ≤ sizeLine) = true := by decide
  unfold c_u_law_start der_u_law_start
  simp [runDef, PI.argsOk, sRet, oLst, dsCons, dsNil, mFrz, oList, mVar, mC, O.frz, frzs_fz, finA, stO, h2, h4, -List.map_map]
theorem call1n {fn : Fn} {st st' r : O} {s0 : Option O} {ρ : Rho} (h : fn [st] = some (r, [some st'])) : mCall fn [some 1] (aLend 1 aNil) (s0 :: some st :: ρ) = some (r, s0 :: some st' :: ρ) := by
  simp [mCall, aLend, aNil, gather, h, setL]
theorem call1d {fn : Fn} {st st' r : O} {d : D} {s0 : Option O} {ρ : Rho} {g : MO} (hg : g (s0 :: some st :: ρ) = some (.fz d, s0 :: some st :: ρ)) (h : fn [st, .fz d] = some (r, [some st', some (.fz d)])) : mCall fn [some 1, none] (aLend 1 (aCons g aNil)) (s0 :: some st :: ρ) = some (r, s0 :: some st' :: ρ) := by
  simp [mCall, aLend, aCons, aNil, gather, hg, h, setL]
theorem wipe20 (s0 s1 : Option O) (r : List (Option O)) : wipeR (s0 :: s1 :: r) [20] = s0 :: s1 :: r.set 18 none := rfl
abbrev fmG (e : MO) : MD := mFrz (mCall c_u_law_some_form [some 1, none] (aLend 1 (aCons e aNil)))
/-- some drawn forms -/
theorem forms_comp (ds : List Int) (ns : List Str) (X : D) (hX : X = .tup (ns.map .str) ∨ X = .lst (ns.map .str)) (hn : ns.Nodup) (hl : ns.length < 60) (s0 : Option O) (r : List (Option O)) (hr : r.length = 20) (e : MO)
    (he : ∀ (a b c : Int) (s : Option O), e (s0 :: some (stO ds a b c) :: r.set 18 s) = some (.fz X, s0 :: some (stO ds a b c) :: r.set 18 s)) : ∀ (xs : List D) (a b c : Int), ∃ (a' b' c' : Int) (fs : List Fm), fs.length = xs.length ∧ (∀ f ∈ fs, DrawnF ns f) ∧
      compLoop [20] (gSet 20) bYes (fmG e) xs (s0 :: some (stO ds a b c) :: r.set 18 none) = some (fs.map fD, s0 :: some (stO ds a' b' c') :: r.set 18 none)
  | [], a, b, c => ⟨a, b, c, [], rfl, fun f hf => by simp at hf, rfl⟩
  | x :: xs, a, b, c => by
    obtain ⟨a1, b1, c1, f, hf, e1⟩ := some_form_ok ds a b c ns X hX hn hl
    obtain ⟨a2, b2, c2, fs, h1, h2, h3⟩ := forms_comp ds ns X hX hn hl s0 r hr e he xs a1 b1 c1
    refine ⟨a2, b2, c2, f :: fs, by simp [h1], fun g hg => ?_, ?_⟩
    · rcases List.mem_cons.mp hg with rfl | hg
      · exact hf
      · exact h2 g hg
    · have eb : gSet 20 x (s0 :: some (stO ds a b c) :: r.set 18 none) = some (s0 :: some (stO ds a b c) :: r.set 18 (some (.fz x))) := by
        have : decide (20 < (s0 :: some (stO ds a b c) :: r.set 18 none).length) = true := by simp [hr]
        unfold gSet
        rw [this]
        show some (s0 :: some (stO ds a b c) :: (r.set 18 none).set 18 (some (.fz x))) = _
        rw [List.set_set]
      refine ev_comp1 eb rfl (ev_frz (call1d (he a b c _) e1) rfl) ?_
      rw [wipe20, List.set_set]
      exact h3
theorem drawn_good {ns : List Str} {f : Fm} (h : DrawnF ns f) (hn : ∀ n ∈ ns, n.length ≤ 100) (hl : ns.length ≤ 20) : GoodF f :=
  ⟨h.ok, fun p hp => hn _ (h.sub _ (List.mem_map_of_mem hp)), h.bnd, Nat.le_trans h.len hl⟩
abbrev drT (s : Int) : MB := bOf (mOp2 dEqD (mFrz (mCall c_u_law_draw [some 1, none] (aLend 1 (aCons (oFz (mC (D.int s))) aNil)))) (mC (D.int 0)))
theorem arr_comp (ds : List Int) (s0 : Option O) (r : List (Option O)) (hr : r.length = 20) : ∀ (ks : List Nat) (a b c : Int), ∃ (a' b' c' : Int) (ar : List Nat), ar.Sublist ks ∧
      compLoop [20] (gSet 20) (drT 2) (mTup (dsCons (mC (D.int 0)) (dsCons (mVar 20) dsNil))) (ks.map fun (i : Nat) => D.int (0 + (i : Int))) (s0 :: some (stO ds a b c) :: r.set 18 none) = some (ar.map arD, s0 :: some (stO ds a' b' c') :: r.set 18 none)
  | [], a, b, c => ⟨a, b, c, [], .slnil, rfl⟩
  | k :: ks, a, b, c => by
    obtain ⟨v, a1, b1, c1, l1, u1, e1⟩ := draw_ok ds a b c 2 (by decide) (by decide)
    obtain ⟨a2, b2, c2, ar, h1, h3⟩ := arr_comp ds s0 r hr ks a1 b1 c1
    have eb : gSet 20 (.int (0 + (k : Int))) (s0 :: some (stO ds a b c) :: r.set 18 none) = some (s0 :: some (stO ds a b c) :: r.set 18 (some (.fz (.int (0 + (k : Int)))))) := by
      have : decide (20 < (s0 :: some (stO ds a b c) :: r.set 18 none).length) = true := by simp [hr]
      unfold gSet
      rw [this]
      show some (s0 :: some (stO ds a b c) :: (r.set 18 none).set 18 (some (.fz (.int (0 + (k : Int)))))) = _
      rw [List.set_set]
    have t : drT 2 (s0 :: some (stO ds a b c) :: r.set 18 (some (.fz (.int (0 + (k : Int)))))) = some (decide (v = 0), s0 :: some (stO ds a1 b1 c1) :: r.set 18 (some (.fz (.int (0 + (k : Int)))))) := ev_b (ev_op (dw1 e1) rfl rfl)
    have hv : mVar 20 (s0 :: some (stO ds a1 b1 c1) :: r.set 18 (some (.fz (.int (0 + (k : Int)))))) = some (.int (0 + (k : Int)), s0 :: some (stO ds a1 b1 c1) :: r.set 18 (some (.fz (.int (0 + (k : Int)))))) := by
      unfold mVar
      show (match (r.set 18 (some (.fz (.int (0 + (k : Int))))))[18]? with
        | some (some (.fz d)) => some (d, _)
        | _ => none) = _
      rw [List.getElem?_set_self (by omega)]
    have w : ∀ a b c, wipeR (s0 :: some (stO ds a b c) :: r.set 18 (some (.fz (.int (0 + (k : Int)))))) [20] = s0 :: some (stO ds a b c) :: r.set 18 none := fun a b c => by rw [wipe20, List.set_set]
    cases hd : decide (v = 0) with
    | true =>
      rw [hd] at t
      refine ⟨a2, b2, c2, k :: ar, h1.cons₂ k, ev_comp1 (x := arD k) eb t ?_ (by rw [w]; exact h3)⟩
      refine ev_tup (ds := [.int 0, .int (k : Int)]) (ev_cons rfl (ev_one ?_)) two_le
      rw [hv, Int.zero_add]
    | false =>
      rw [hd] at t
      exact ⟨a2, b2, c2, ar, h1.cons k, ev_comp0 eb t (by rw [w]; exact h3)⟩
theorem fw (f : Fm) : True := trivial
theorem it0_len (c : Cs) : c.it0.length = 2 := rfl
theorem short0 (c : Cs) (h : CsOk c) (hk : c.k0.length ≤ 8) : shortI (c.it0 ++ [(false, c.k0)]) := by
  have := h.nm.l0
  have := h.nm.l1
  intro i hi
  unfold Cs.it0 at hi
  simp at hi
  rcases hi with rfl | rfl | rfl <;> simp <;> omega
theorem ins0 (c : Cs) (h : CsOk c) (hk : c.k0.length ≤ 8) : ∃ as', c_inputs_of [.fz (knD c.kn0), .fz (S "putl")] = some (.fz (T ((c.it0 ++ [(false, c.k0)]).map fun i => S ("@" ++ varS i))), as') ∧ as'.length = 2 := by
  refine ins_ok c.kn0 (nd0 c) (len0 c) "putl" (c.it0 ++ [(false, c.k0)]) ((put0 c).1.2.drop 1) (put0 c).2 ?_ (short0 c h hk) (by simp [it0_len])
  exact put0_in c h
theorem cut0 (c : Cs) : dSlice (T ((c.it0 ++ [(false, c.k0)]).map fun i => S ("@" ++ varS i))) none (some (1 + (1 + 0))) = some (T (c.N0.map S)) := rfl
theorem N0_short (c : Cs) (h : CsOk c) : ∀ n ∈ c.N0, n.length ≤ 10 := by
  have h2 := h.nm.l0
  have h3 := h.nm.l1
  intro n hn
  unfold Cs.N0 at hn
  obtain ⟨i, hi, rfl⟩ := List.mem_map.mp hn
  have : i.2.length ≤ 8 := by
    unfold Cs.it0 at hi
    simp at hi
    rcases hi with rfl | rfl <;> simp <;> omega
  rw [len_app]
  have := var_len i
  have : ("@" : Str).length = 1 := by decide
  omega
theorem N0_nodup (c : Cs) (h : CsOk c) : c.N0.Nodup := by
  have lx : lowS c.n.x0 = true := h.nm.lo _ (by simp)
  have n1 : ∀ s : Str, c.n.x0 ≠ "#" ++ s := fun s => low_app (c := 35) (by omega) lx
  have e0 : varS (false, c.n.x0) = c.n.x0 := rfl
  have e1 : varS (true, c.n.a0) = "#" ++ c.n.a0 := rfl
  have k1 : "@" ++ c.n.x0 ≠ "@" ++ ("#" ++ c.n.a0) := fun e => n1 _ (app_inj e)
  simp [Cs.N0, Cs.it0, e0, e1, k1]
def both (c : Cs) : List Str := (c.N0.map fun n : Str => ("l." : Str) ++ n) ++ (c.N1.map fun n : Str => ("r." : Str) ++ n)
theorem both_nodup (c : Cs) (h : CsOk c) : (both c).Nodup := by
  unfold both
  rw [List.nodup_append]
  refine ⟨nodup_map_inj (fun a b e => app_inj e) (N0_nodup c h), nodup_map_inj (fun a b e => app_inj e) (N1_nodup c h), fun a ha b hb e => ?_⟩
  obtain ⟨x, _, rfl⟩ := List.mem_map.mp ha
  obtain ⟨y, _, rfl⟩ := List.mem_map.mp hb
  have : ("l." ++ x).cps.toList = ("r." ++ y).cps.toList := by rw [e]
  rw [app_list, app_list] at this
  have h1 : ("l." : Str).cps.toList = [108, 46] := by decide
  have h2 : ("r." : Str).cps.toList = [114, 46] := by decide
  rw [h1, h2] at this
  simp at this
theorem both_short (c : Cs) (h : CsOk c) : ∀ n ∈ both c, n.length ≤ 100 := by
  intro n hn
  unfold both at hn
  have hl : ("l." : Str).length = 2 := by decide
  have hr : ("r." : Str).length = 2 := by decide
  rcases List.mem_append.mp hn with hn | hn
  · obtain ⟨x, hx, rfl⟩ := List.mem_map.mp hn
    have := N0_short c h x hx
    rw [len_app]
    omega
  · obtain ⟨x, hx, rfl⟩ := List.mem_map.mp hn
    have := N1_short c h x hx
    rw [len_app]
    omega
theorem both_len (c : Cs) : (both c).length ≤ 5 := by
  have := N1_len c
  have h0 : c.N0.length = 2 := rfl
  unfold both
  rw [List.length_append, List.length_map, List.length_map]
  omega
/-- a claim is told the same as itself -/
theorem same_pD (p : Str × Int) (n : Nat) : sameD (n + 1) (pD p) = true := by simp [pD, sameD, sameDs]
theorem same_fD (f : Fm) (n : Nat) (h : f.2.length < 1000) : sameD (n + 3) (fD f) = true := by
  have : sameDs (n + 1) (f.2.map pD) = true := sameDs_of fun d hd => by
    obtain ⟨p, _, rfl⟩ := List.mem_map.mp hd
    exact same_pD p n
  simp [fD, sameD, sameDs, this, h]
theorem minus_len (f g : Fm) (h : f.2.length + g.2.length < 900) : (minusF f g).2.length < 1000 := by
  unfold minusF
  dsimp only
  split
  · omega
  · have := nf_len (f.2 ++ scaleP (-1) g.2)
    simp [scaleP] at this ⊢
    omega
theorem claim_same (c : Cs) (F0 F1 R : List Fm) (ar : List Nat) (h0 : ∀ f ∈ F0, GoodF f) (h1 : ∀ f ∈ F1, GoodF f) (hR : ∀ f ∈ R, GoodF f) (l0 : F0.length ≤ 10) (l1 : F1.length ≤ 10) (lR : R.length ≤ 10) (lar : ar.length ≤ 10) : sameD 11 (claimD c F0 F1 R ar) = true := by
  have g0 : (giv0 c).length ≤ 4 := by
    unfold giv0
    split <;> simp
  have a1 : sameDs 9 ((giv0 c ++ F0.map (markF "l.")).map fD) = true := sameDs_of fun d hd => by
    obtain ⟨f, hf, rfl⟩ := List.mem_map.mp hd
    refine same_fD f 6 ?_
    rcases List.mem_append.mp hf with hf | hf
    · unfold giv0 at hf
      rcases List.mem_append.mp hf with hf | hf
      · simp only [List.mem_cons, List.not_mem_nil, or_false] at hf
        rcases hf with rfl | rfl <;> exact minus_len _ _ (by simp [vr])
      · split at hf
        · simp only [List.mem_cons, List.not_mem_nil, or_false] at hf
          rcases hf with rfl | rfl <;> simp
        · simp at hf
    · obtain ⟨g, hg, rfl⟩ := List.mem_map.mp hf
      have := (h0 g hg).fw
      simp [markF, mark_len]
      omega
  have a2 : sameDs 9 (((R ++ F1.map (markF "r.")).map (imgF (qrs c))).map fD) = true := sameDs_of fun d hd => by
    obtain ⟨f, hf, rfl⟩ := List.mem_map.mp hd
    refine same_fD f 6 ?_
    obtain ⟨g, hg, rfl⟩ := List.mem_map.mp hf
    have hlen : g.2.length ≤ 20 := by
      rcases List.mem_append.mp hg with hg | hg
      · exact (hR g hg).fw
      · obtain ⟨k, hk, rfl⟩ := List.mem_map.mp hg
        have := (h1 k hk).fw
        simp [markF, mark_len]
        omega
    show (nf (imgR (qrs c) g.2)).length < 1000
    have := nf_len (imgR (qrs c) g.2)
    rw [imgR_len] at this
    omega
  have a3 : sameDs 9 (ar.map (keepDD c)) = true := sameDs_of fun d hd => by
    obtain ⟨k, _, rfl⟩ := List.mem_map.mp hd
    simp [keepDD, sameD, sameDs]
  unfold claimD same0
  simp only [sameD, sameDs, a1, a2, a3, Bool.and_true, Bool.true_and, List.length_map, List.length_append, List.length_cons, List.length_nil, Bool.and_eq_true, decide_eq_true_eq]
  omega
end Hd
set_option Elab.async false
set_option linter.all false
set_option maxRecDepth 100000
set_option maxHeartbeats 4000000
set_option autoImplicit false
/-! P36p: the law, its statements (printed by law.py). -/
namespace Hd
open PySem PySem.Spec L2 PI
abbrev invB : MS := (sAppend 9
                              (oFz
                                (mFn fTup
                                  (dsCons
                                    (mFrz
                                      (oComp
                                        (iRange1
                                          (mFrz
                                            (mCall c_u_law_draw [some 1, none]
                                              (aLend 1 (aCons (oFz (mC (D.int 3))) aNil)))))
                                        [20] (gSet 20) bYes
                                        (mFrz
                                          (mCall c_u_law_some_form [some 1, none]
                                            (aLend 1 (aCons (oFz (mOp2 dIx (mVar 8) (mVar 10))) aNil))))))
                                    dsNil))))
theorem rng_lt {v : Int} {m : Nat} (h0 : 0 ≤ v) (h : v < 100) : inRange v = true := by
  have := inRange_ok (n := v.toNat) (by omega)
  have e : ((v.toNat : Nat) : Int) = v := by omega
  rwa [e] at this
theorem dotL {n : Str} (h : n.length ≤ 10) : dAddG (S "l.") (S n) = some (S ("l." ++ n)) := add_str (by
  have : ("l." : Str).length = 2 := by decide
  omega)
theorem inv_step (ds : List Int) (a b c : Int) (sc : O) (r : List (Option O)) (hr : r.length = 20) (os : List O) (h9 : r[7]? = some (some (.lst os))) (hol : os.length < 100) (h20 : r[18]? = some none) (ns : List Str) (hn : ns.Nodup) (hl : ns.length < 60)
    (he : ∀ (a b c : Int) (s : Option O), oFz (mOp2 dIx (mVar 8) (mVar 10)) (some sc :: some (stO ds a b c) :: r.set 18 s) = some (.fz (.tup (ns.map .str)), some sc :: some (stO ds a b c) :: r.set 18 s)) :
    ∃ (a' b' c' : Int) (fs : List Fm), fs.length ≤ 10 ∧ (∀ f ∈ fs, DrawnF ns f) ∧ invB (some sc :: some (stO ds a b c) :: r) = some (.nx, some sc :: some (stO ds a' b' c') :: r.set 7 (some (.lst (os ++ [.fz (T (fs.map fD))])))) := by
  obtain ⟨v, a1, b1, c1, l1, u1, e1⟩ := draw_ok ds a b c 3 (by decide) (by decide)
  obtain ⟨a2, b2, c2, fs, h1, h2, h3⟩ := forms_comp ds ns (.tup (ns.map .str)) (.inl rfl) hn hl (some sc) r hr (oFz (mOp2 dIx (mVar 8) (mVar 10))) he (rangeD 0 v.toNat) a1 b1 c1
  have hz := size1000
  have hlen : fs.length ≤ 10 := by rw [h1, rangeD_length]; omega
  have hset : r.set 18 none = r := by
    apply List.ext_getElem?
    intro i
    by_cases hi : i = 18
    · subst hi
      rw [List.getElem?_set_self (by omega), h20]
    · rw [List.getElem?_set_ne (Ne.symm hi)]
  refine ⟨a2, b2, c2, fs, hlen, h2, ?_⟩
  have hc : oComp (iRange1 (mFrz (mCall c_u_law_draw [some 1, none] (aLend 1 (aCons (oFz (mC (D.int 3))) aNil))))) [20] (gSet 20) bYes (fmG (oFz (mOp2 dIx (mVar 8) (mVar 10)))) (some sc :: some (stO ds a b c) :: r) = some (.lst ((fs.map fD).map .fz), some sc :: some (stO ds a2 b2 c2) :: r) := by
    have hz20 : fzAt (some sc :: some (stO ds a1 b1 c1) :: r) [20] = true := by
      simp [fzAt, h20]
    have := ev_comp (vs := [20]) (b := gSet 20) (t := bYes) (g := fmG (oFz (mOp2 dIx (mVar 8) (mVar 10)))) (ev_rng (dw1 e1) (rng_lt (m := 0) l1 (by omega)) rfl) (by
      rw [hz20, Bool.true_and, rangeD_length]
      exact decide_eq_true (small (by omega))) (by rw [wipe20]; exact h3)
    rw [this]
    congr 2
    show some sc :: some (stO ds a2 b2 c2) :: (r.set 18 none).set 18 (match r[18]? with | some x => x | none => none) = _
    rw [h20, List.set_set, hset]
  refine ev_append2 (ρ1 := some sc :: some (stO ds a2 b2 c2) :: r) (os0 := os) (os := os) (o := .fz (T (fs.map fD))) ?_ (ev_fz (ev_fn (ev_one (ev_frz hc (frz_lst _))) rfl)) ?_ (by omega) rfl
  · exact h9
  · exact h9
theorem names_ok (c : Cs) (h : CsOk c) (hk0 : c.k0.length ≤ 8) (hk1 : c.k1.length ≤ 8) (ds : List Int) (a b d : Int) (sc : O) (SP P0 P1 : D) :
    oComp (iRange1 (mC (D.int 2))) [10] (gSet 10) bYes
                              (mSlice
                                (mFrz
                                  (oCallD c_inputs_of
                                    (dsCons (mOp2 dIx (mVar 6) (mVar 10))
                                      (dsCons
                                        (mOp2 dIx (mOp2 dIx (mOp2 dIx (mVar 7) (mVar 10)) (mC (D.int 3)))
                                          (mC (D.int 0)))
                                        dsNil))))
                                pNone
                                (pSome
                                  (mOp2 dAddG (mOp2 dIx (mOp2 dIx (mVar 7) (mVar 10)) (mC (D.int 0)))
                                    (mOp2 dIx (mOp2 dIx (mVar 7) (mVar 10)) (mC (D.int 1)))))) ([some sc, some (stO ds a b d), some (.fz (SP)), some (.fz (.lst [T [knD c.kn0, P0], T [knD c.kn1, P1]])), some (.fz (prD c.cv)), some (.fz (cvD c)), some (.fz (c.cores)), some (.fz (c.parts)), none, none, none, none, none, none, none, none, none, none, none, none, none, none]) =
      some (.lst ([T (c.N0.map S), T (c.N1.map S)].map .fz), [some sc, some (stO ds a b d), some (.fz (SP)), some (.fz (.lst [T [knD c.kn0, P0], T [knD c.kn1, P1]])), some (.fz (prD c.cv)), some (.fz (cvD c)), some (.fz (c.cores)), some (.fz (c.parts)), none, none, none, none, none, none, none, none, none, none, none, none, none, none]) := by
  obtain ⟨as0, e0, l0⟩ := ins0 c h hk0
  obtain ⟨as1, e1, l1⟩ := ins1 c h hk1
  have hc := ev_comp (gi := iRange1 (mC (D.int 2))) (vs := [10]) (b := gSet 10) (t := bYes) (g := (mSlice
                                (mFrz
                                  (oCallD c_inputs_of
                                    (dsCons (mOp2 dIx (mVar 6) (mVar 10))
                                      (dsCons
                                        (mOp2 dIx (mOp2 dIx (mOp2 dIx (mVar 7) (mVar 10)) (mC (D.int 3)))
                                          (mC (D.int 0)))
                                        dsNil))))
                                pNone
                                (pSome
                                  (mOp2 dAddG (mOp2 dIx (mOp2 dIx (mVar 7) (mVar 10)) (mC (D.int 0)))
                                    (mOp2 dIx (mOp2 dIx (mVar 7) (mVar 10)) (mC (D.int 1))))))) (ρ := [some sc, some (stO ds a b d), some (.fz (SP)), some (.fz (.lst [T [knD c.kn0, P0], T [knD c.kn1, P1]])), some (.fz (prD c.cv)), some (.fz (cvD c)), some (.fz (c.cores)), some (.fz (c.parts)), none, none, none, none, none, none, none, none, none, none, none, none, none, none]) (ρ1 := [some sc, some (stO ds a b d), some (.fz (SP)), some (.fz (.lst [T [knD c.kn0, P0], T [knD c.kn1, P1]])), some (.fz (prD c.cv)), some (.fz (cvD c)), some (.fz (c.cores)), some (.fz (c.parts)), none, none, none, none, none, none, none, none, none, none, none, none, none, none]) (ds := [.int 0, .int 1]) (xs := [T (c.N0.map S), T (c.N1.map S)]) (ρ2 := [some sc, some (stO ds a b d), some (.fz (SP)), some (.fz (.lst [T [knD c.kn0, P0], T [knD c.kn1, P1]])), some (.fz (prD c.cv)), some (.fz (cvD c)), some (.fz (c.cores)), some (.fz (c.parts)), none, none, none, none, none, none, none, none, none, none, none, none, none, none]) (by kernel_rfl) rfl
    (ev_comp1 (ρ1 := [some sc, some (stO ds a b d), some (.fz (SP)), some (.fz (.lst [T [knD c.kn0, P0], T [knD c.kn1, P1]])), some (.fz (prD c.cv)), some (.fz (cvD c)), some (.fz (c.cores)), some (.fz (c.parts)), none, none, some (.fz (.int 0)), none, none, none, none, none, none, none, none, none, none, none]) (ρ3 := [some sc, some (stO ds a b d), some (.fz (SP)), some (.fz (.lst [T [knD c.kn0, P0], T [knD c.kn1, P1]])), some (.fz (prD c.cv)), some (.fz (cvD c)), some (.fz (c.cores)), some (.fz (c.parts)), none, none, some (.fz (.int 0)), none, none, none, none, none, none, none, none, none, none, none]) rfl rfl (ev_slice (ρ1 := [some sc, some (stO ds a b d), some (.fz (SP)), some (.fz (.lst [T [knD c.kn0, P0], T [knD c.kn1, P1]])), some (.fz (prD c.cv)), some (.fz (cvD c)), some (.fz (c.cores)), some (.fz (c.parts)), none, none, some (.fz (.int 0)), none, none, none, none, none, none, none, none, none, none, none]) (ρ2 := [some sc, some (stO ds a b d), some (.fz (SP)), some (.fz (.lst [T [knD c.kn0, P0], T [knD c.kn1, P1]])), some (.fz (prD c.cv)), some (.fz (cvD c)), some (.fz (c.cores)), some (.fz (c.parts)), none, none, some (.fz (.int 0)), none, none, none, none, none, none, none, none, none, none, none]) (ev_frz (ev_callD (ds := [knD c.kn0, S "putl"]) (ev_cons (ev_op (x := c.cores) (y := .int 0) rfl rfl rfl) (ev_one (ev_op (x := namesD "l" c.many) (ev_op (x := partD "l" 0 0 c.many) (ev_op (x := c.parts) (y := .int 0) rfl rfl rfl) rfl (part3 _ _ _ _)) rfl (part30 _ _ h.mn)))) e0 l0) rfl) rfl (ev_some (i := 1 + (1 + 0)) (by kernel_rfl)) (cut0 c))
      (ev_comp1 (ρ1 := [some sc, some (stO ds a b d), some (.fz (SP)), some (.fz (.lst [T [knD c.kn0, P0], T [knD c.kn1, P1]])), some (.fz (prD c.cv)), some (.fz (cvD c)), some (.fz (c.cores)), some (.fz (c.parts)), none, none, some (.fz (.int 1)), none, none, none, none, none, none, none, none, none, none, none]) (ρ3 := [some sc, some (stO ds a b d), some (.fz (SP)), some (.fz (.lst [T [knD c.kn0, P0], T [knD c.kn1, P1]])), some (.fz (prD c.cv)), some (.fz (cvD c)), some (.fz (c.cores)), some (.fz (c.parts)), none, none, some (.fz (.int 1)), none, none, none, none, none, none, none, none, none, none, none]) rfl rfl (ev_slice (ρ1 := [some sc, some (stO ds a b d), some (.fz (SP)), some (.fz (.lst [T [knD c.kn0, P0], T [knD c.kn1, P1]])), some (.fz (prD c.cv)), some (.fz (cvD c)), some (.fz (c.cores)), some (.fz (c.parts)), none, none, some (.fz (.int 1)), none, none, none, none, none, none, none, none, none, none, none]) (ρ2 := [some sc, some (stO ds a b d), some (.fz (SP)), some (.fz (.lst [T [knD c.kn0, P0], T [knD c.kn1, P1]])), some (.fz (prD c.cv)), some (.fz (cvD c)), some (.fz (c.cores)), some (.fz (c.parts)), none, none, some (.fz (.int 1)), none, none, none, none, none, none, none, none, none, none, none]) (ev_frz (ev_callD (ds := [knD c.knc, S "putr"]) (ev_cons (ev_op (x := c.cores) (y := .int 1) rfl rfl rfl) (ev_one (ev_op (x := namesD "r" c.many) (ev_op (x := partD "r" c.log c.sh c.many) (ev_op (x := c.parts) (y := .int 1) rfl rfl rfl) rfl (part3 _ _ _ _)) rfl (part30 _ _ h.mn)))) e1 l1) rfl) rfl (ev_some (i := 1 + (1 + c.log)) (by kernel_rfl)) (cut1 c h)) rfl))
  exact hc
abbrev fltB : MS := (sSeq
                                    (sAsg 14
                                      (oFz
                                        (mFrz
                                          (oNewD 0 c_Pair_init
                                            (dsCons
                                              (mTup
                                                (dsCons (mOp2 dIx (mOp2 dIx (mVar 3) (mC (D.int 0))) (mC (D.int 0)))
                                                  (dsCons
                                                    (mOp2 dAddG (mTup (dsCons (mVar 12) dsNil))
                                                      (mOp2 dIx (mOp2 dIx (mVar 3) (mC (D.int 1))) (mC (D.int 0))))
                                                    dsNil)))
                                              (dsCons (mVar 7)
                                                (dsCons (mPeek (mFn fTup (dsCons (mVar 9) dsNil))) dsNil)))))))
                                    (sIf
                                      (bOf
                                        (mOp2 dIsNot
                                          (mFrz (oCallD c_is_converter (dsCons (mVar 14) (dsCons (mVar 13) dsNil))))
                                          (mC (D.bl false))))
                                      (sRet (oFz (mC (D.bl false)))) sSkip))
theorem init_ok (x y w : D) : c_Pair_init [.obj 0 [] [], .fz x, .fz y, .fz w] = some (.fz .non, [some (.obj 0 ["cores", "parts", "invariants"] [.fz x, .fz y, .fz w]), some (.fz x), some (.fz y), some (.fz w)]) := by kernel_rfl
theorem ev_new {cc : Nat} {fn : Fn} {f : MDs} {ρ ρ1 : Rho} {ds : List D} {t : O} {as' : Rho} (e : f ρ = some (ds, ρ1)) (ef : fn (.obj cc [] [] :: ds.map .fz) = some (.fz .non, some t :: as')) (hl : as'.length = ds.length) : oNewD cc fn f ρ = some (t, ρ1) := by
  unfold oNewD; rw [e]; dsimp only; rw [ef]; dsimp only; rw [decide_eq_true hl]
theorem kn1_len (c : Cs) : c.kn1.length ≤ 3 := by
  have : (knL "r" c.log c.sw c.sh c.by_ c.n.x1 c.n.a1 c.n.w1 c.k1 c.t1 c.i1).length = 3 := rfl
  unfold Cs.kn1
  rw [List.length_take]
  omega
theorem add_core (c : Cs) (o : D) : dAddG (T [o]) (knD c.kn1) = some (T (o :: c.kn1.map fun q => prD q.1)) := by
  have := kn1_len c
  exact add_tup (a := [o]) (by simp; omega)
theorem peekI (F0 F1 : List Fm) (ρ : Rho) (h : ρ[9]? = some (some (.lst [.fz (T (F0.map fD)), .fz (T (F1.map fD))]))) : mPeek (mFn fTup (dsCons (mVar 9) dsNil)) ρ = some (T [T (F0.map fD), T (F1.map fD)], ρ) :=
  ev_peek (ev_fn (ev_one (ev_view (d := .lst [T (F0.map fD), T (F1.map fD)]) h rfl)) rfl) (by simp [D.imm, D.imms, imms_fD])
theorem flt_loop (c : Cs) (h : CsOk c) (ds : List Int) (a b d : Int) (sc : O) (SP P0 P1 : D) (F0 F1 : List Fm) : ∀ (qs : List (D × D)) (s12 s13 s14 : Option O), (∀ q ∈ qs, q ∈ flts c) → ∃ s12' s13' s14',
    forLoop (gTupD 2 (gsCons (gSet 12) (gsCons (gSet 13) gsNil))) fltB (qs.map ftD) ([some sc, some (stO ds a b d), some (.fz (SP)), some (.fz (.lst [T [knD c.kn0, P0], T [knD c.kn1, P1]])), some (.fz (prD c.cv)), some (.fz (cvD c)), some (.fz (c.cores)), some (.fz (c.parts)), some (.fz (.lst [T (c.N0.map S), T (c.N1.map S)])), some (.lst [.fz (T (F0.map fD)), .fz (T (F1.map fD))]), some (.fz (.int 1)), some (.fz (c.pair (T (F0.map fD)) (T (F1.map fD)))), s12, s13, s14, none, none, none, none, none, none, none]) = some (.nx, [some sc, some (stO ds a b d), some (.fz (SP)), some (.fz (.lst [T [knD c.kn0, P0], T [knD c.kn1, P1]])), some (.fz (prD c.cv)), some (.fz (cvD c)), some (.fz (c.cores)), some (.fz (c.parts)), some (.fz (.lst [T (c.N0.map S), T (c.N1.map S)])), some (.lst [.fz (T (F0.map fD)), .fz (T (F1.map fD))]), some (.fz (.int 1)), some (.fz (c.pair (T (F0.map fD)) (T (F1.map fD)))), s12', s13', s14', none, none, none, none, none, none, none])
  | [], s12, s13, s14, _ => ⟨s12, s13, s14, rfl⟩
  | q :: qs, s12, s13, s14, hq => by
    obtain ⟨s12', s13', s14', e⟩ := flt_loop c h ds a b d sc SP P0 P1 F0 F1 qs (some (.fz q.1)) (some (.fz q.2)) (some (.fz (spD2 c q.1 (T (F0.map fD)) (T (F1.map fD))))) (fun x hx => hq x (by simp [hx]))
    obtain ⟨as', e1, l1⟩ := conv_false c h (T (F0.map fD)) (T (F1.map fD)) q (hq q (by simp))
    refine ⟨s12', s13', s14', ev_for1 (ρ1 := [some sc, some (stO ds a b d), some (.fz (SP)), some (.fz (.lst [T [knD c.kn0, P0], T [knD c.kn1, P1]])), some (.fz (prD c.cv)), some (.fz (cvD c)), some (.fz (c.cores)), some (.fz (c.parts)), some (.fz (.lst [T (c.N0.map S), T (c.N1.map S)])), some (.lst [.fz (T (F0.map fD)), .fz (T (F1.map fD))]), some (.fz (.int 1)), some (.fz (c.pair (T (F0.map fD)) (T (F1.map fD)))), some (.fz (q.1)), some (.fz (q.2)), s14, none, none, none, none, none, none, none]) (ρ2 := [some sc, some (stO ds a b d), some (.fz (SP)), some (.fz (.lst [T [knD c.kn0, P0], T [knD c.kn1, P1]])), some (.fz (prD c.cv)), some (.fz (cvD c)), some (.fz (c.cores)), some (.fz (c.parts)), some (.fz (.lst [T (c.N0.map S), T (c.N1.map S)])), some (.lst [.fz (T (F0.map fD)), .fz (T (F1.map fD))]), some (.fz (.int 1)), some (.fz (c.pair (T (F0.map fD)) (T (F1.map fD)))), some (.fz (q.1)), some (.fz (q.2)), some (.fz (spD2 c q.1 (T (F0.map fD)) (T (F1.map fD)))), none, none, none, none, none, none, none]) rfl ?_ e⟩
    refine seq_nx (ρ1 := [some sc, some (stO ds a b d), some (.fz (SP)), some (.fz (.lst [T [knD c.kn0, P0], T [knD c.kn1, P1]])), some (.fz (prD c.cv)), some (.fz (cvD c)), some (.fz (c.cores)), some (.fz (c.parts)), some (.fz (.lst [T (c.N0.map S), T (c.N1.map S)])), some (.lst [.fz (T (F0.map fD)), .fz (T (F1.map fD))]), some (.fz (.int 1)), some (.fz (c.pair (T (F0.map fD)) (T (F1.map fD)))), some (.fz (q.1)), some (.fz (q.2)), some (.fz (spD2 c q.1 (T (F0.map fD)) (T (F1.map fD)))), none, none, none, none, none, none, none]) (ev_asg2 (o := .fz (spD2 c q.1 (T (F0.map fD)) (T (F1.map fD)))) (ev_fz (ev_frz (ev_new (ds := [T [knD c.kn0, T (q.1 :: c.kn1.map fun q => prD q.1)], c.parts, T [T (F0.map fD), T (F1.map fD)]]) (ev_cons (ev_tup (ev_cons (d := knD c.kn0) (by rfl) (ev_one (ev_op (x := T [q.1]) (y := knD c.kn1) (by rfl) (by rfl) (add_core c q.1)))) two_le) (ev_cons (by rfl) (ev_one (peekI F0 F1 _ rfl)))) (init_ok _ _ _) rfl) rfl)) rfl rfl) ?_
    exact ev_if (k := false) (ev_b (ev_op (x := .bl false) (y := .bl false) (ev_frz (ev_callD (ds := [spD2 c q.1 (T (F0.map fD)) (T (F1.map fD)), q.2]) (ev_cons rfl (ev_one rfl)) e1 l1) rfl) rfl rfl)) rfl
abbrev ENDL : MS := (sSeq
                                  (sAsg 15
                                    (oFz
                                      (mOp2 dAddG
                                        (mFrz
                                          (oComp (iSeq (mOp2 dIx (mVar 8) (mC (D.int 0))))
                                            [21] (gSet 21) bYes
                                            (mOp2 dAddG (mC (D.str (Str.ofString "l."))) (mVar 21))))
                                        (mFrz
                                          (oComp (iSeq (mOp2 dIx (mVar 8) (mC (D.int 1))))
                                            [21] (gSet 21) bYes
                                            (mOp2 dAddG (mC (D.str (Str.ofString "r."))) (mVar 21)))))))
                                  (sSeq
                                    (sAsg 16
                                      (oFz
                                        (mFrz
                                          (oComp (iRange1 (mOp2 dIx (mOp2 dIx (mVar 7) (mC (D.int 1))) (mC (D.int 1))))
                                            [20] (gSet 20)
                                            (bOf
                                              (mOp2 dEqD
                                                (mFrz
                                                  (mCall c_u_law_draw [some 1, none]
                                                    (aLend 1 (aCons (oFz (mC (D.int 2))) aNil))))
                                                (mC (D.int 0))))
                                            (mTup (dsCons (mC (D.int 0)) (dsCons (mVar 20) dsNil)))))))
                                    (sSeq
                                      (sAsg 17
                                        (oFz
                                          (mTup
                                            (dsCons
                                              (mFn fTup
                                                (dsCons
                                                  (mFrz
                                                    (oComp
                                                      (iRange1
                                                        (mFrz
                                                          (mCall c_u_law_draw [some 1, none]
                                                            (aLend 1 (aCons (oFz (mC (D.int 4))) aNil)))))
                                                      [20]
                                                      (gSet 20) bYes
                                                      (mFrz
                                                        (mCall c_u_law_some_form [some 1, none]
                                                          (aLend 1 (aCons (oFz (mVar 15)) aNil))))))
                                                  dsNil))
                                              (dsCons (mFn fTup (dsCons (mVar 16) dsNil)) dsNil)))))
                                      (sSeq
                                        (sAsg 18
                                          (oFz
                                            (mFrz
                                              (mCall c_u_law_claim [none, none, some 9, none, none, none]
                                                (aCons (oFz (mVar 6))
                                                  (aCons (oFz (mVar 7))
                                                    (aLend 9
                                                      (aCons (oFz (mVar 4))
                                                        (aCons (oFz (mVar 5)) (aCons (oFz (mVar 17)) aNil))))))))))
                                        (sRet
                                          (oCallD c_u_law_same
                                            (dsCons
                                              (mFrz
                                                (oCallD c_exchange_claim
                                                  (dsCons (mVar 11) (dsCons (mVar 5) (dsCons (mVar 17) dsNil)))))
                                              (dsCons (mVar 18) dsNil))))))))
theorem law_end (c : Cs) (h : CsOk c) (hk0 : c.k0.length ≤ 8) (hk1 : c.k1.length ≤ 8) (ds : List Int) (a b d : Int) (sc : O) (SP P0 P1 : D) (hP : P1 = partD "r" c.log c.sh c.many) (F0 F1 : List Fm) (h0 : ∀ f ∈ F0, GoodF f) (h1 : ∀ f ∈ F1, GoodF f) (l0 : F0.length ≤ 10) (l1 : F1.length ≤ 10) (s12 s13 s14 : Option O) :
    ∃ ρ' : Rho, ρ'.length = 22 ∧ ENDL ([some sc, some (stO ds a b d), some (.fz (SP)), some (.fz (.lst [T [knD c.kn0, P0], T [knD c.kn1, P1]])), some (.fz (prD c.cv)), some (.fz (cvD c)), some (.fz (c.cores)), some (.fz (c.parts)), some (.fz (.lst [T (c.N0.map S), T (c.N1.map S)])), some (.lst [.fz (T (F0.map fD)), .fz (T (F1.map fD))]), some (.fz (.int 1)), some (.fz (c.pair (T (F0.map fD)) (T (F1.map fD)))), s12, s13, s14, none, none, none, none, none, none, none]) = some (.rt (.fz (.bl true)), ρ') := by
  have hN1 := N1_len c
  have hN0 : c.N0.length = 2 := rfl
  -- both
  have hb : mOp2 dAddG (mFrz (oComp (iSeq (mOp2 dIx (mVar 8) (mC (D.int 0)))) [21] (gSet 21) bYes (mOp2 dAddG (mC (D.str (Str.ofString "l."))) (mVar 21)))) (mFrz (oComp (iSeq (mOp2 dIx (mVar 8) (mC (D.int 1)))) [21] (gSet 21) bYes (mOp2 dAddG (mC (D.str (Str.ofString "r."))) (mVar 21)))) ([some sc, some (stO ds a b d), some (.fz (SP)), some (.fz (.lst [T [knD c.kn0, P0], T [knD c.kn1, P1]])), some (.fz (prD c.cv)), some (.fz (cvD c)), some (.fz (c.cores)), some (.fz (c.parts)), some (.fz (.lst [T (c.N0.map S), T (c.N1.map S)])), some (.lst [.fz (T (F0.map fD)), .fz (T (F1.map fD))]), some (.fz (.int 1)), some (.fz (c.pair (T (F0.map fD)) (T (F1.map fD)))), s12, s13, s14, none, none, none, none, none, none, none]) = some (.lst ((both c).map S), [some sc, some (stO ds a b d), some (.fz (SP)), some (.fz (.lst [T [knD c.kn0, P0], T [knD c.kn1, P1]])), some (.fz (prD c.cv)), some (.fz (cvD c)), some (.fz (c.cores)), some (.fz (c.parts)), some (.fz (.lst [T (c.N0.map S), T (c.N1.map S)])), some (.lst [.fz (T (F0.map fD)), .fz (T (F1.map fD))]), some (.fz (.int 1)), some (.fz (c.pair (T (F0.map fD)) (T (F1.map fD)))), s12, s13, s14, none, none, none, none, none, none, none]) := by
    have hL := comp_all (gi := iSeq (mOp2 dIx (mVar 8) (mC (D.int 0)))) (vs := [21]) (b := gSet 21) (g := mOp2 dAddG (mC (D.str (Str.ofString "l."))) (mVar 21)) (ρ := [some sc, some (stO ds a b d), some (.fz (SP)), some (.fz (.lst [T [knD c.kn0, P0], T [knD c.kn1, P1]])), some (.fz (prD c.cv)), some (.fz (cvD c)), some (.fz (c.cores)), some (.fz (c.parts)), some (.fz (.lst [T (c.N0.map S), T (c.N1.map S)])), some (.lst [.fz (T (F0.map fD)), .fz (T (F1.map fD))]), some (.fz (.int 1)), some (.fz (c.pair (T (F0.map fD)) (T (F1.map fD)))), s12, s13, s14, none, none, none, none, none, none, none]) (ρ1 := [some sc, some (stO ds a b d), some (.fz (SP)), some (.fz (.lst [T [knD c.kn0, P0], T [knD c.kn1, P1]])), some (.fz (prD c.cv)), some (.fz (cvD c)), some (.fz (c.cores)), some (.fz (c.parts)), some (.fz (.lst [T (c.N0.map S), T (c.N1.map S)])), some (.lst [.fz (T (F0.map fD)), .fz (T (F1.map fD))]), some (.fz (.int 1)), some (.fz (c.pair (T (F0.map fD)) (T (F1.map fD)))), s12, s13, s14, none, none, none, none, none, none, none]) S (fun n => S ("l." ++ n)) c.N0 (ev_seqT (ev_op (x := .lst [T (c.N0.map S), T (c.N1.map S)]) (y := .int 0) rfl rfl rfl)) rfl (by omega) (fun n hn =>
      ⟨[some sc, some (stO ds a b d), some (.fz (SP)), some (.fz (.lst [T [knD c.kn0, P0], T [knD c.kn1, P1]])), some (.fz (prD c.cv)), some (.fz (cvD c)), some (.fz (c.cores)), some (.fz (c.parts)), some (.fz (.lst [T (c.N0.map S), T (c.N1.map S)])), some (.lst [.fz (T (F0.map fD)), .fz (T (F1.map fD))]), some (.fz (.int 1)), some (.fz (c.pair (T (F0.map fD)) (T (F1.map fD)))), s12, s13, s14, none, none, none, none, none, none, some (.fz (S n))], _, rfl, ev_op (x := S "l.") (y := S n) rfl rfl (dotL (N0_short c h n hn)), rfl⟩) rfl
    have hR := comp_all (gi := iSeq (mOp2 dIx (mVar 8) (mC (D.int 1)))) (vs := [21]) (b := gSet 21) (g := mOp2 dAddG (mC (D.str (Str.ofString "r."))) (mVar 21)) (ρ := [some sc, some (stO ds a b d), some (.fz (SP)), some (.fz (.lst [T [knD c.kn0, P0], T [knD c.kn1, P1]])), some (.fz (prD c.cv)), some (.fz (cvD c)), some (.fz (c.cores)), some (.fz (c.parts)), some (.fz (.lst [T (c.N0.map S), T (c.N1.map S)])), some (.lst [.fz (T (F0.map fD)), .fz (T (F1.map fD))]), some (.fz (.int 1)), some (.fz (c.pair (T (F0.map fD)) (T (F1.map fD)))), s12, s13, s14, none, none, none, none, none, none, none]) (ρ1 := [some sc, some (stO ds a b d), some (.fz (SP)), some (.fz (.lst [T [knD c.kn0, P0], T [knD c.kn1, P1]])), some (.fz (prD c.cv)), some (.fz (cvD c)), some (.fz (c.cores)), some (.fz (c.parts)), some (.fz (.lst [T (c.N0.map S), T (c.N1.map S)])), some (.lst [.fz (T (F0.map fD)), .fz (T (F1.map fD))]), some (.fz (.int 1)), some (.fz (c.pair (T (F0.map fD)) (T (F1.map fD)))), s12, s13, s14, none, none, none, none, none, none, none]) S (fun n => S ("r." ++ n)) c.N1 (ev_seqT (ev_op (x := .lst [T (c.N0.map S), T (c.N1.map S)]) (y := .int 1) rfl rfl rfl)) rfl (by omega) (fun n hn =>
      ⟨[some sc, some (stO ds a b d), some (.fz (SP)), some (.fz (.lst [T [knD c.kn0, P0], T [knD c.kn1, P1]])), some (.fz (prD c.cv)), some (.fz (cvD c)), some (.fz (c.cores)), some (.fz (c.parts)), some (.fz (.lst [T (c.N0.map S), T (c.N1.map S)])), some (.lst [.fz (T (F0.map fD)), .fz (T (F1.map fD))]), some (.fz (.int 1)), some (.fz (c.pair (T (F0.map fD)) (T (F1.map fD)))), s12, s13, s14, none, none, none, none, none, none, some (.fz (S n))], _, rfl, ev_op (x := S "r.") (y := S n) rfl rfl (dotN (N1_short c h n hn)), rfl⟩) rfl
    refine ev_op (ev_frz hL (frz_lst _)) (ev_frz hR (frz_lst _)) ?_
    rw [add_lst (by simp; omega)]
    simp only [both, List.map_append, List.map_map]
    rfl
  obtain ⟨a1, b1, c1, ar, hsub, e2⟩ := arr_comp ds (some sc) [some (.fz (SP)), some (.fz (.lst [T [knD c.kn0, P0], T [knD c.kn1, P1]])), some (.fz (prD c.cv)), some (.fz (cvD c)), some (.fz (c.cores)), some (.fz (c.parts)), some (.fz (.lst [T (c.N0.map S), T (c.N1.map S)])), some (.lst [.fz (T (F0.map fD)), .fz (T (F1.map fD))]), some (.fz (.int 1)), some (.fz (c.pair (T (F0.map fD)) (T (F1.map fD)))), s12, s13, s14, some (.fz (.lst ((both c).map S))), none, none, none, none, none, none] rfl (List.range (1 + c.log).toNat) a b d
  have hlog : (1 + c.log).toNat ≤ 2 := by
    rcases h.lg with ⟨hl, _⟩ | ⟨hl, _⟩ | ⟨hl, _⟩ <;> omega
  have hlog0 : 0 ≤ 1 + c.log := by
    rcases h.lg with ⟨hl, _⟩ | ⟨hl, _⟩ | ⟨hl, _⟩ <;> omega
  have lar : ar.length ≤ 10 := by
    have := hsub.length_le
    simp at this
    omega
  have har : ∀ k ∈ ar, k < (1 + c.log).toNat := fun k hk => List.mem_range.mp (hsub.subset hk)
  obtain ⟨v, a2, b2, c2, lv, uv, ed⟩ := draw_ok ds a1 b1 c1 4 (by decide) (by decide)
  obtain ⟨a3, b3, c3, R, hRl, hRd, e3⟩ := forms_comp ds (both c) (.lst ((both c).map .str)) (.inr rfl) (both_nodup c h) (by have := both_len c; omega) (some sc) [some (.fz (SP)), some (.fz (.lst [T [knD c.kn0, P0], T [knD c.kn1, P1]])), some (.fz (prD c.cv)), some (.fz (cvD c)), some (.fz (c.cores)), some (.fz (c.parts)), some (.fz (.lst [T (c.N0.map S), T (c.N1.map S)])), some (.lst [.fz (T (F0.map fD)), .fz (T (F1.map fD))]), some (.fz (.int 1)), some (.fz (c.pair (T (F0.map fD)) (T (F1.map fD)))), s12, s13, s14, some (.fz (.lst ((both c).map S))), some (.fz (.lst (ar.map arD))), none, none, none, none, none] rfl (oFz (mVar 15)) (fun _ _ _ _ => rfl) (rangeD 0 v.toNat) a2 b2 c2
  have hR : ∀ f ∈ R, GoodF f := fun f hf => drawn_good (hRd f hf) (both_short c h) (by have := both_len c; omega)
  have lR : R.length ≤ 10 := by rw [hRl, rangeD_length]; omega
  have ecl := claim_ok c h hk1 F0 F1 R ar h0 h1 hR l0 l1 lR har lar
  obtain ⟨asx, eex, lex⟩ := exchange_ok c h hk1 F0 F1 R ar h0 h1 hR l0 l1 lR har lar
  obtain ⟨asm, esm, lsm⟩ := same_ok (claimD c F0 F1 R ar) (claim_same c F0 F1 R ar h0 h1 hR l0 l1 lR lar)
  refine ⟨[some sc, some (stO ds a3 b3 c3), some (.fz (SP)), some (.fz (.lst [T [knD c.kn0, P0], T [knD c.kn1, P1]])), some (.fz (prD c.cv)), some (.fz (cvD c)), some (.fz (c.cores)), some (.fz (c.parts)), some (.fz (.lst [T (c.N0.map S), T (c.N1.map S)])), some (.lst [.fz (T (F0.map fD)), .fz (T (F1.map fD))]), some (.fz (.int 1)), some (.fz (c.pair (T (F0.map fD)) (T (F1.map fD)))), s12, s13, s14, some (.fz (.lst ((both c).map S))), some (.fz (.lst (ar.map arD))), some (.fz (T [T (R.map fD), T (ar.map arD)])), some (.fz (claimD c F0 F1 R ar)), none, none, none], rfl, ?_⟩
  refine seq_nx (ρ1 := [some sc, some (stO ds a b d), some (.fz (SP)), some (.fz (.lst [T [knD c.kn0, P0], T [knD c.kn1, P1]])), some (.fz (prD c.cv)), some (.fz (cvD c)), some (.fz (c.cores)), some (.fz (c.parts)), some (.fz (.lst [T (c.N0.map S), T (c.N1.map S)])), some (.lst [.fz (T (F0.map fD)), .fz (T (F1.map fD))]), some (.fz (.int 1)), some (.fz (c.pair (T (F0.map fD)) (T (F1.map fD)))), s12, s13, s14, some (.fz (.lst ((both c).map S))), none, none, none, none, none, none]) (ev_asg2 (o := .fz (.lst ((both c).map S))) (ev_fz hb) rfl rfl) ?_
  have hrg : iRange1 (mOp2 dIx (mOp2 dIx (mVar 7) (mC (D.int 1))) (mC (D.int 1))) ([some sc, some (stO ds a b d), some (.fz (SP)), some (.fz (.lst [T [knD c.kn0, P0], T [knD c.kn1, P1]])), some (.fz (prD c.cv)), some (.fz (cvD c)), some (.fz (c.cores)), some (.fz (c.parts)), some (.fz (.lst [T (c.N0.map S), T (c.N1.map S)])), some (.lst [.fz (T (F0.map fD)), .fz (T (F1.map fD))]), some (.fz (.int 1)), some (.fz (c.pair (T (F0.map fD)) (T (F1.map fD)))), s12, s13, s14, some (.fz (.lst ((both c).map S))), none, none, none, none, none, none]) = some ((List.range (1 + c.log).toNat).map fun (i : Nat) => D.int (0 + (i : Int)), [some sc, some (stO ds a b d), some (.fz (SP)), some (.fz (.lst [T [knD c.kn0, P0], T [knD c.kn1, P1]])), some (.fz (prD c.cv)), some (.fz (cvD c)), some (.fz (c.cores)), some (.fz (c.parts)), some (.fz (.lst [T (c.N0.map S), T (c.N1.map S)])), some (.lst [.fz (T (F0.map fD)), .fz (T (F1.map fD))]), some (.fz (.int 1)), some (.fz (c.pair (T (F0.map fD)) (T (F1.map fD)))), s12, s13, s14, some (.fz (.lst ((both c).map S))), none, none, none, none, none, none]) :=
    ev_rng (j := 1 + c.log) (by kernel_rfl) (rng_lt (m := 0) hlog0 (by omega)) rfl
  have hca := ev_comp (vs := [20]) (b := gSet 20) (t := drT 2) (g := mTup (dsCons (mC (D.int 0)) (dsCons (mVar 20) dsNil))) hrg (by
    show (true && decide (((List.range (1 + c.log).toNat).map fun (i : Nat) => D.int (0 + (i : Int))).length ≤ sizeLine)) = true
    rw [Bool.true_and]
    exact decide_eq_true (small (by simp; omega))) e2
  refine seq_nx (ρ1 := [some sc, some (stO ds a1 b1 c1), some (.fz (SP)), some (.fz (.lst [T [knD c.kn0, P0], T [knD c.kn1, P1]])), some (.fz (prD c.cv)), some (.fz (cvD c)), some (.fz (c.cores)), some (.fz (c.parts)), some (.fz (.lst [T (c.N0.map S), T (c.N1.map S)])), some (.lst [.fz (T (F0.map fD)), .fz (T (F1.map fD))]), some (.fz (.int 1)), some (.fz (c.pair (T (F0.map fD)) (T (F1.map fD)))), s12, s13, s14, some (.fz (.lst ((both c).map S))), some (.fz (.lst (ar.map arD))), none, none, none, none, none]) (ev_asg2 (o := .fz (.lst (ar.map arD))) (ev_fz (ev_frz hca (frz_lst _))) rfl rfl) ?_
  have hrf := ev_comp (gi := iRange1 (mFrz (mCall c_u_law_draw [some 1, none] (aLend 1 (aCons (oFz (mC (D.int 4))) aNil))))) (vs := [20]) (b := gSet 20) (t := bYes) (g := fmG (oFz (mVar 15))) (ρ := [some sc, some (stO ds a1 b1 c1), some (.fz (SP)), some (.fz (.lst [T [knD c.kn0, P0], T [knD c.kn1, P1]])), some (.fz (prD c.cv)), some (.fz (cvD c)), some (.fz (c.cores)), some (.fz (c.parts)), some (.fz (.lst [T (c.N0.map S), T (c.N1.map S)])), some (.lst [.fz (T (F0.map fD)), .fz (T (F1.map fD))]), some (.fz (.int 1)), some (.fz (c.pair (T (F0.map fD)) (T (F1.map fD)))), s12, s13, s14, some (.fz (.lst ((both c).map S))), some (.fz (.lst (ar.map arD))), none, none, none, none, none]) (ρ1 := [some sc, some (stO ds a2 b2 c2), some (.fz (SP)), some (.fz (.lst [T [knD c.kn0, P0], T [knD c.kn1, P1]])), some (.fz (prD c.cv)), some (.fz (cvD c)), some (.fz (c.cores)), some (.fz (c.parts)), some (.fz (.lst [T (c.N0.map S), T (c.N1.map S)])), some (.lst [.fz (T (F0.map fD)), .fz (T (F1.map fD))]), some (.fz (.int 1)), some (.fz (c.pair (T (F0.map fD)) (T (F1.map fD)))), s12, s13, s14, some (.fz (.lst ((both c).map S))), some (.fz (.lst (ar.map arD))), none, none, none, none, none]) (ds := rangeD 0 v.toNat) (ev_rng (j := v) (dw1 ed) (rng_lt (m := 0) lv (by omega)) rfl) (by
    show (true && decide ((rangeD 0 v.toNat).length ≤ sizeLine)) = true
    rw [Bool.true_and, rangeD_length]
    exact decide_eq_true (small (by omega))) e3
  refine seq_nx (ρ1 := [some sc, some (stO ds a3 b3 c3), some (.fz (SP)), some (.fz (.lst [T [knD c.kn0, P0], T [knD c.kn1, P1]])), some (.fz (prD c.cv)), some (.fz (cvD c)), some (.fz (c.cores)), some (.fz (c.parts)), some (.fz (.lst [T (c.N0.map S), T (c.N1.map S)])), some (.lst [.fz (T (F0.map fD)), .fz (T (F1.map fD))]), some (.fz (.int 1)), some (.fz (c.pair (T (F0.map fD)) (T (F1.map fD)))), s12, s13, s14, some (.fz (.lst ((both c).map S))), some (.fz (.lst (ar.map arD))), some (.fz (T [T (R.map fD), T (ar.map arD)])), none, none, none, none]) (ev_asg2 (o := .fz (T [T (R.map fD), T (ar.map arD)])) (ev_fz (ev_tup (ev_cons (ev_fn (ev_one (ev_frz hrf (frz_lst _))) rfl) (ev_one (ev_fn (ev_one rfl) rfl))) two_le)) rfl rfl) ?_
  refine seq_nx (ρ1 := [some sc, some (stO ds a3 b3 c3), some (.fz (SP)), some (.fz (.lst [T [knD c.kn0, P0], T [knD c.kn1, P1]])), some (.fz (prD c.cv)), some (.fz (cvD c)), some (.fz (c.cores)), some (.fz (c.parts)), some (.fz (.lst [T (c.N0.map S), T (c.N1.map S)])), some (.lst [.fz (T (F0.map fD)), .fz (T (F1.map fD))]), some (.fz (.int 1)), some (.fz (c.pair (T (F0.map fD)) (T (F1.map fD)))), s12, s13, s14, some (.fz (.lst ((both c).map S))), some (.fz (.lst (ar.map arD))), some (.fz (T [T (R.map fD), T (ar.map arD)])), some (.fz (claimD c F0 F1 R ar)), none, none, none]) (ev_asg2 (o := .fz (claimD c F0 F1 R ar)) (ev_fz (ev_frz (ev_call2 (ω := [some (.fz c.cores), some (.fz c.parts), none, some (.fz (prD c.cv)), some (.fz (cvD c)), some (.fz (T [T (R.map fD), T (ar.map arD)]))]) (ρ1 := [some sc, some (stO ds a3 b3 c3), some (.fz (SP)), some (.fz (.lst [T [knD c.kn0, P0], T [knD c.kn1, P1]])), some (.fz (prD c.cv)), some (.fz (cvD c)), some (.fz (c.cores)), some (.fz (c.parts)), some (.fz (.lst [T (c.N0.map S), T (c.N1.map S)])), some (.lst [.fz (T (F0.map fD)), .fz (T (F1.map fD))]), some (.fz (.int 1)), some (.fz (c.pair (T (F0.map fD)) (T (F1.map fD)))), s12, s13, s14, some (.fz (.lst ((both c).map S))), some (.fz (.lst (ar.map arD))), some (.fz (T [T (R.map fD), T (ar.map arD)])), none, none, none, none]) rfl rfl ecl rfl rfl) rfl)) rfl rfl) ?_
  exact ev_ret (ev_callD (ds := [claimD c F0 F1 R ar, claimD c F0 F1 R ar]) (ev_cons (ev_frz (ev_callD (ds := [c.pair (T (F0.map fD)) (T (F1.map fD)), cvD c, T [T (R.map fD), T (ar.map arD)]]) (ev_cons rfl (ev_cons rfl (ev_one rfl))) eex lex) rfl) (ev_one rfl)) esm lsm)
end Hd
set_option Elab.async false
set_option linter.all false
set_option maxRecDepth 100000
set_option maxHeartbeats 4000000
set_option autoImplicit false
/-! P36o: the law holds (printed by law2.py). -/
namespace Hd
open PySem PySem.Spec L2 PI
theorem kn_take {qs : Kn} (h : KnOk qs) (n : Nat) : KnOk (qs.take n) := fun q hq => h q (List.take_subset _ _ hq)
theorem names6 {x a w k t i : Str} (h : namesOk [x, a, w, k, t, i] = true) : ([x, a, w].Nodup ∧ [x, a].Nodup) ∧ (x.length ≤ 8 ∧ a.length ≤ 8 ∧ w.length ≤ 8 ∧ k.length ≤ 8) ∧ (lowS x = true ∧ lowS a = true ∧ lowS w = true) := by
  simp only [namesOk, Bool.and_eq_true, decide_eq_true_eq, List.all_cons, List.all_nil, Bool.and_true] at h
  obtain ⟨⟨⟨h1, h2⟩, h3⟩, h4⟩ := h
  refine ⟨⟨?_, ?_⟩, ⟨h4.1, h4.2.1, h4.2.2.1, h4.2.2.2.1⟩, ⟨h3.1, h3.2.1, h3.2.2.1⟩⟩
  · exact h1.sublist (List.take_sublist 3 [x, a, w, k, t, i])
  · exact h1.sublist (List.take_sublist 2 [x, a, w, k, t, i])
theorem names4 {x a w t : Str} (h : namesOk [x, a, w, t] = true) : x ≠ t ∧ (x.length ≤ 8 ∧ a.length ≤ 8 ∧ w.length ≤ 8 ∧ t.length ≤ 8) ∧ (lowS x = true ∧ lowS a = true ∧ lowS w = true ∧ lowS t = true) ∧ PyData.strOk x = true := by
  simp only [namesOk, Bool.and_eq_true, decide_eq_true_eq, List.all_cons, List.all_nil, Bool.and_true] at h
  obtain ⟨⟨⟨h1, h2⟩, h3⟩, h4⟩ := h
  refine ⟨?_, ⟨h4.1, h4.2.1, h4.2.2.1, h4.2.2.2⟩, ⟨h3.1, h3.2.1, h3.2.2.1, h3.2.2.2⟩, h2.1⟩
  intro e
  subst e
  simp at h1
theorem law_ok (ns : List Int) (h : ns.length ≤ 63) : ∃ as', c_law [.fz (.rol (ns.map .int))] = some (.fz (.bl true), as') ∧ as'.length = 1 := by
  let sc : O := .fz (.rol (ns.map .int))
  obtain ⟨a1, b1, c1, log, sw, sh, by_, many, hls, hsh, hby, hmany, e1⟩ := two_ok ns 0 0 0
  have hlg : LogOk log sw := by
    rcases hls with ⟨x, y⟩ | x
    · exact .inl ⟨x, y⟩
    · cases sw
      · exact .inr (.inl ⟨x, rfl⟩)
      · exact .inr (.inr ⟨x, rfl⟩)
  obtain ⟨a2, b2, c2, x0, a0, w0, k0, t0, i0, hn0, e2⟩ := side_ok "l" 0 false 0 by_ many (.inl ⟨rfl, rfl, rfl, rfl⟩) hby hmany ns a1 b1 c1
  obtain ⟨a3, b3, c3, x1, r1, w1, k1, t1, i1, hn1, e3⟩ := side_ok "r" log sw sh by_ many (.inr ⟨rfl, hls, hsh⟩) hby hmany ns a2 b2 c2
  obtain ⟨a4, b4, c4, xc, ac, wc, tc, tst, hnc, e4⟩ := conv_ok log sw sh by_ many hlg ns a3 b3 c3
  obtain ⟨⟨_, d0⟩, ⟨q1, q2, q3, q4⟩, ⟨q5, q6, q7⟩⟩ := names6 hn0
  obtain ⟨⟨d1, _⟩, ⟨p1, p2, p3, p4⟩, ⟨p5, p6, p7⟩⟩ := names6 hn1
  obtain ⟨dc, ⟨m1, m2, m3, m4⟩, ⟨m5, m6, m7, m8⟩, m9⟩ := names4 hnc
  let c : Cs := ⟨log, sw, sh, by_, many, tst, ⟨x0, a0, x1, r1, w1, xc, ac, wc, tc⟩, k0, w0, t0, i0, k1, t1, i1⟩
  have hc : CsOk c := by
    refine ⟨hlg, hmany, ⟨q1, q2, p1, p2, p3, m1, m2, m3, m4, d1, d0, ?_, dc, m9⟩, kn_take (knL_ok "l" 0 false 0 by_ x0 a0 w0 k0 t0 i0 (.inl ⟨rfl, rfl⟩) hn0) _, ?_⟩
    · intro s hs
      simp only [List.mem_cons, List.not_mem_nil, or_false] at hs
      rcases hs with rfl | rfl | rfl | rfl | rfl | rfl | rfl | rfl | rfl <;> assumption
    · intro q hq
      rcases List.mem_cons.mp hq with rfl | hq
      · exact cv_known log sh tst xc ac wc tc
      · exact kn_take (knL_ok "r" log sw sh by_ x1 r1 w1 k1 t1 i1 hlg hn1) _ q hq
  have hk0 : c.k0.length ≤ 8 := q4
  have hk1 : c.k1.length ≤ 8 := p4
  let SP : D := T [spD "l" 0 false 0 by_ many, spD "r" log sw sh by_ many]
  let P0 : D := partD "l" 0 0 many
  let P1 : D := partD "r" log sh many
  rw [knL_core "l" 0 false 0 by_ many x0 a0 w0 k0 t0 i0 (.inl ⟨rfl, rfl⟩) hmany] at e2
  rw [knL_core "r" log sw sh by_ many x1 r1 w1 k1 t1 i1 hlg hmany] at e3
  -- the invariants
  obtain ⟨a5, b5, c5, F0, f0l, f0d, e5⟩ := inv_step ns a4 b4 c4 sc [some (.fz (SP)), some (.fz (.lst [T [knD c.kn0, P0], T [knD c.kn1, P1]])), some (.fz (prD c.cv)), some (.fz (cvD c)), some (.fz (c.cores)), some (.fz (c.parts)), some (.fz (.lst [T (c.N0.map S), T (c.N1.map S)])), some (.lst []), some (.fz (.int 0)), none, none, none, none, none, none, none, none, none, none, none] rfl [] rfl (by simp) rfl c.N0 (N0_nodup c hc) (by simp [Cs.N0, Cs.it0]) (fun _ _ _ _ => rfl)
  obtain ⟨a6, b6, c6, F1, f1l, f1d, e6⟩ := inv_step ns a5 b5 c5 sc [some (.fz (SP)), some (.fz (.lst [T [knD c.kn0, P0], T [knD c.kn1, P1]])), some (.fz (prD c.cv)), some (.fz (cvD c)), some (.fz (c.cores)), some (.fz (c.parts)), some (.fz (.lst [T (c.N0.map S), T (c.N1.map S)])), some (.lst [.fz (T (F0.map fD))]), some (.fz (.int 1)), none, none, none, none, none, none, none, none, none, none, none] rfl [.fz (T (F0.map fD))] rfl (by simp) rfl c.N1 (N1_nodup c hc) (by have := N1_len c; omega) (fun _ _ _ _ => rfl)
  have g0 : ∀ f ∈ F0, GoodF f := fun f hf => drawn_good (f0d f hf) (fun n hn => Nat.le_trans (N0_short c hc n hn) (by omega)) (by simp [Cs.N0, Cs.it0])
  have g1 : ∀ f ∈ F1, GoodF f := fun f hf => drawn_good (f1d f hf) (fun n hn => Nat.le_trans (N1_short c hc n hn) (by omega)) (by have := N1_len c; omega)
  obtain ⟨asf, ef, lf⟩ := faults_ok c hc
  obtain ⟨s12, s13, s14, eflt⟩ := flt_loop c hc ns a6 b6 c6 sc SP P0 P1 F0 F1 (flts c) none none none (fun q hq => hq)
  obtain ⟨ρ', hρ, eend⟩ := law_end c hc hk0 hk1 ns a6 b6 c6 sc SP P0 P1 rfl F0 F1 g0 g1 f0l f1l s12 s13 s14
  have hct := conv_true c hc (T (F0.map fD)) (T (F1.map fD))
  have hnm := names_ok c hc hk0 hk1 ns a4 b4 c4 sc SP P0 P1
  obtain ⟨x, hx⟩ : ∃ x, finA [] 0 [sc] ρ' = [some x] := by
    match ρ', hρ with
    | r :: ρ', _ => exact ⟨_, rfl⟩
  refine ⟨[some x], ev_run (ρ' := ρ') ?_ rfl (by rw [hρ]; rfl) hx, rfl⟩
  unfold der_law
  dsimp only
  refine seq_nx (ρ1 := [some sc, some (stO ns 0 0 0), none, none, none, none, none, none, none, none, none, none, none, none, none, none, none, none, none, none, none, none]) (ev_asg2 (ev_callD (ds := [.rol (ns.map .int)]) (ev_one rfl) (start_ok ns h) rfl) rfl rfl) ?_
  refine seq_nx (ρ1 := [some sc, some (stO ns a1 b1 c1), some (.fz (SP)), none, none, none, none, none, none, none, none, none, none, none, none, none, none, none, none, none, none, none]) (ev_asg2 (ev_fz (ev_frz (call1n e1) rfl)) rfl rfl) ?_
  have hsides := ev_comp (gi := iSeq (mVar 2)) (vs := [19]) (b := gSet 19) (t := bYes) (g := mFrz (mCall c_u_law_side [some 1, none] (aLend 1 (aCons (oFz (mVar 19)) aNil)))) (ρ := [some sc, some (stO ns a1 b1 c1), some (.fz (SP)), none, none, none, none, none, none, none, none, none, none, none, none, none, none, none, none, none, none, none]) (ρ1 := [some sc, some (stO ns a1 b1 c1), some (.fz (SP)), none, none, none, none, none, none, none, none, none, none, none, none, none, none, none, none, none, none, none]) (ρ2 := [some sc, some (stO ns a3 b3 c3), some (.fz (SP)), none, none, none, none, none, none, none, none, none, none, none, none, none, none, none, none, none, none, none]) (ds := [spD "l" 0 false 0 by_ many, spD "r" log sw sh by_ many]) (xs := [T [knD c.kn0, P0], T [knD c.kn1, P1]]) rfl rfl
    (ev_comp1 (ρ1 := [some sc, some (stO ns a1 b1 c1), some (.fz (SP)), none, none, none, none, none, none, none, none, none, none, none, none, none, none, none, none, some (.fz (spD "l" 0 false 0 by_ many)), none, none]) (ρ3 := [some sc, some (stO ns a2 b2 c2), some (.fz (SP)), none, none, none, none, none, none, none, none, none, none, none, none, none, none, none, none, some (.fz (spD "l" 0 false 0 by_ many)), none, none]) rfl rfl (ev_frz (call1d rfl e2) rfl) (ev_comp1 (ρ1 := [some sc, some (stO ns a2 b2 c2), some (.fz (SP)), none, none, none, none, none, none, none, none, none, none, none, none, none, none, none, none, some (.fz (spD "r" log sw sh by_ many)), none, none]) (ρ3 := [some sc, some (stO ns a3 b3 c3), some (.fz (SP)), none, none, none, none, none, none, none, none, none, none, none, none, none, none, none, none, some (.fz (spD "r" log sw sh by_ many)), none, none]) rfl rfl (ev_frz (call1d rfl e3) rfl) rfl))
  refine seq_nx (ρ1 := [some sc, some (stO ns a3 b3 c3), some (.fz (SP)), some (.fz (.lst [T [knD c.kn0, P0], T [knD c.kn1, P1]])), none, none, none, none, none, none, none, none, none, none, none, none, none, none, none, none, none, none]) (ev_asg2 (o := .fz (.lst [T [knD c.kn0, P0], T [knD c.kn1, P1]])) (ev_fz (ev_frz hsides rfl)) rfl rfl) ?_
  refine seq_nx (ρ1 := [some sc, some (stO ns a4 b4 c4), some (.fz (SP)), some (.fz (.lst [T [knD c.kn0, P0], T [knD c.kn1, P1]])), some (.fz (prD c.cv)), some (.fz (cvD c)), none, none, none, none, none, none, none, none, none, none, none, none, none, none, none, none]) (ev_unp (d := T [prD c.cv, cvD c]) (ev_frz (call1d rfl e4) rfl) rfl) ?_
  refine seq_nx (ρ1 := [some sc, some (stO ns a4 b4 c4), some (.fz (SP)), some (.fz (.lst [T [knD c.kn0, P0], T [knD c.kn1, P1]])), some (.fz (prD c.cv)), some (.fz (cvD c)), some (.fz (c.cores)), none, none, none, none, none, none, none, none, none, none, none, none, none, none, none]) (ev_asg2 (o := .fz c.cores) (ev_fz (ev_tup (ev_cons (d := knD c.kn0) rfl (ev_one (ev_op (x := T [prD c.cv]) (y := knD c.kn1) rfl rfl (add_core c (prD c.cv))))) two_le)) rfl rfl) ?_
  refine seq_nx (ρ1 := [some sc, some (stO ns a4 b4 c4), some (.fz (SP)), some (.fz (.lst [T [knD c.kn0, P0], T [knD c.kn1, P1]])), some (.fz (prD c.cv)), some (.fz (cvD c)), some (.fz (c.cores)), some (.fz (c.parts)), none, none, none, none, none, none, none, none, none, none, none, none, none, none]) (by kernel_rfl) ?_
  refine seq_nx (ρ1 := [some sc, some (stO ns a4 b4 c4), some (.fz (SP)), some (.fz (.lst [T [knD c.kn0, P0], T [knD c.kn1, P1]])), some (.fz (prD c.cv)), some (.fz (cvD c)), some (.fz (c.cores)), some (.fz (c.parts)), some (.fz (.lst [T (c.N0.map S), T (c.N1.map S)])), none, none, none, none, none, none, none, none, none, none, none, none, none]) (ev_asg2 (o := .fz (.lst [T (c.N0.map S), T (c.N1.map S)])) (ev_fz (ev_frz hnm rfl)) rfl rfl) ?_
  refine seq_nx (ρ1 := [some sc, some (stO ns a4 b4 c4), some (.fz (SP)), some (.fz (.lst [T [knD c.kn0, P0], T [knD c.kn1, P1]])), some (.fz (prD c.cv)), some (.fz (cvD c)), some (.fz (c.cores)), some (.fz (c.parts)), some (.fz (.lst [T (c.N0.map S), T (c.N1.map S)])), some (.lst []), none, none, none, none, none, none, none, none, none, none, none, none]) (ev_asg2 (o := .lst []) rfl rfl rfl) ?_
  refine seq_nx (ρ1 := [some sc, some (stO ns a6 b6 c6), some (.fz (SP)), some (.fz (.lst [T [knD c.kn0, P0], T [knD c.kn1, P1]])), some (.fz (prD c.cv)), some (.fz (cvD c)), some (.fz (c.cores)), some (.fz (c.parts)), some (.fz (.lst [T (c.N0.map S), T (c.N1.map S)])), some (.lst [.fz (T (F0.map fD)), .fz (T (F1.map fD))]), some (.fz (.int 1)), none, none, none, none, none, none, none, none, none, none, none]) (ev_for (ds := [.int 0, .int 1]) (ρ1 := [some sc, some (stO ns a4 b4 c4), some (.fz (SP)), some (.fz (.lst [T [knD c.kn0, P0], T [knD c.kn1, P1]])), some (.fz (prD c.cv)), some (.fz (cvD c)), some (.fz (c.cores)), some (.fz (c.parts)), some (.fz (.lst [T (c.N0.map S), T (c.N1.map S)])), some (.lst []), none, none, none, none, none, none, none, none, none, none, none, none]) (by kernel_rfl) (ev_for1 (ρ1 := [some sc, some (stO ns a4 b4 c4), some (.fz (SP)), some (.fz (.lst [T [knD c.kn0, P0], T [knD c.kn1, P1]])), some (.fz (prD c.cv)), some (.fz (cvD c)), some (.fz (c.cores)), some (.fz (c.parts)), some (.fz (.lst [T (c.N0.map S), T (c.N1.map S)])), some (.lst []), some (.fz (.int 0)), none, none, none, none, none, none, none, none, none, none, none]) rfl e5 (ev_for1 (ρ1 := [some sc, some (stO ns a5 b5 c5), some (.fz (SP)), some (.fz (.lst [T [knD c.kn0, P0], T [knD c.kn1, P1]])), some (.fz (prD c.cv)), some (.fz (cvD c)), some (.fz (c.cores)), some (.fz (c.parts)), some (.fz (.lst [T (c.N0.map S), T (c.N1.map S)])), some (.lst [.fz (T (F0.map fD))]), some (.fz (.int 1)), none, none, none, none, none, none, none, none, none, none, none]) rfl e6 rfl))) ?_
  refine seq_nx (ρ1 := [some sc, some (stO ns a6 b6 c6), some (.fz (SP)), some (.fz (.lst [T [knD c.kn0, P0], T [knD c.kn1, P1]])), some (.fz (prD c.cv)), some (.fz (cvD c)), some (.fz (c.cores)), some (.fz (c.parts)), some (.fz (.lst [T (c.N0.map S), T (c.N1.map S)])), some (.lst [.fz (T (F0.map fD)), .fz (T (F1.map fD))]), some (.fz (.int 1)), some (.fz (c.pair (T (F0.map fD)) (T (F1.map fD)))), none, none, none, none, none, none, none, none, none, none]) (ev_asg2 (o := .fz (c.pair (T (F0.map fD)) (T (F1.map fD)))) (ev_fz (ev_frz (ev_new (ds := [c.cores, c.parts, T [T (F0.map fD), T (F1.map fD)]]) (ev_cons rfl (ev_cons rfl (ev_one (peekI F0 F1 _ rfl)))) (init_ok _ _ _) rfl) rfl)) rfl rfl) ?_
  refine seq_nx (ρ1 := [some sc, some (stO ns a6 b6 c6), some (.fz (SP)), some (.fz (.lst [T [knD c.kn0, P0], T [knD c.kn1, P1]])), some (.fz (prD c.cv)), some (.fz (cvD c)), some (.fz (c.cores)), some (.fz (c.parts)), some (.fz (.lst [T (c.N0.map S), T (c.N1.map S)])), some (.lst [.fz (T (F0.map fD)), .fz (T (F1.map fD))]), some (.fz (.int 1)), some (.fz (c.pair (T (F0.map fD)) (T (F1.map fD)))), none, none, none, none, none, none, none, none, none, none]) (ev_if (k := false) (ev_b (ev_op (x := .bl true) (y := .bl true) (ev_frz (ev_callD (ds := [c.pair (T (F0.map fD)) (T (F1.map fD)), cvD c]) (ev_cons rfl (ev_one rfl)) hct rfl) rfl) rfl rfl)) rfl) ?_
  refine seq_nx (ev_for (ev_seqL (ev_frz (ev_callD (ds := [prD c.cv, cvD c]) (ev_cons rfl (ev_one rfl)) ef lf) (frz_lst _))) eflt) ?_
  exact eend
end Hd
set_option Elab.async false
set_option linter.all false
set_option maxRecDepth 100000
set_option maxHeartbeats 0
set_option autoImplicit false
open PySem PySem.W PySem.Calls PyProof.Rows
theorem PySem.Challenge.cw_longpaid_k36_claims_of_converters_holds : PySem.Challenge.rw_longpaid_k36_claims_of_converters.Holds := by
  w_on; o_law
  refine HandSHeadRun.head_any (r := Hd.R) (q := view Hd.R.prog [65]) (H := Hd.hk) (ob := Hd.ob) (M := 4000) (loose := Hd.loose) (d := HandSHeadRun.topDef Hd.R.prog 65) (kwd := []) Hd.ob_eq
    (by kernel_rfl) (fun s => by kernel_rfl) Hd.run (by kernel_rfl) (by kernel_rfl) (by kernel_rfl) (by rfl) (by first | assumption | decide +kernel) (by decide +kernel) ⟨rfl, rfl, rfl, rfl, rfl, by decide +kernel⟩ ?hw ?hc
  case hw => w_witness2
  case hc =>
    refine L2.walk_ofE (l := PySem.Challenge.rw_longpaid_k36_claims_of_converters) (n := 63) (k := 25) (x := "script") (CX := L2.CX0) rfl (by decide) (by kernel_rfl) ⟨rfl, by decide, by decide⟩ ?F (fun _ _ _ _ z => z)
    intro w mg fa h Y G hmg0
    obtain ⟨K, KX, c⟩ := Y
    have hmg : mg ("law" : PySem.Str) = some (.ref fa) := by
      have e : (HandSHeadRun.topDef Hd.R.prog 65).name = ("law" : PySem.Str) := by kernel_rfl
      rw [← e]
      exact hmg0
    have B := Hd.bnd KX G c
    obtain ⟨f, fd, F, hm⟩ := B.f_law.ex
    have e := hmg.symm.trans hm
    cases e
    have b := L2.FunD.bindsA (ps := ["script"]) F fun _ _ _ _ _ _ us hl => match us, hl with | [_], _ => rfl
    exact ⟨K, fd, PI.spOf K (Hd.clOf K) Hd.c_law, KX, fun s v => b s [v] rfl, fun H a ns hl _ hS => (Hd.law_ok ns hl).elim fun as' z => PI.law_sp hS z.1 z.2,
      fun base _ _ => Hd.ok_lawF B F⟩
