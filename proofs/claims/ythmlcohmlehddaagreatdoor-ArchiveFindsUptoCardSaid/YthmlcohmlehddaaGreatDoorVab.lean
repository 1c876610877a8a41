/- What is proved: at every archive row that the statement's guards let in, the rows of a key, and of keys, are the document's, so that the spec answers true.
Conditions: the call's arguments together hold at most 1048576 values and letters (the card's own bound); no other. -/
import Derived.Deep.AppendSrc
import Derived.Maps.RangeRun
import Derived.WideKeyRuns
import Derived.Test.YthmlcohmlehddaaGreatDoorVaa
set_option linter.all false
namespace Go.Du
open Go
structure Flat (m : Mu) (sz : Nat) (l : List (List AV)) (vs : List Value) : Prop where
  size : vs.length = l.length * sz
  len : ∀ c ∈ l, c.length = sz
  one : ∀ u ∈ vs, u.oneCell' = true
  rel : ∀ i (hi : i < l.length) j (hj : j < l[i].length), RelV m l[i][j] (vs.getD (i * sz + j) undef)
theorem Flat.nil (m : Mu) (sz : Nat) : Flat m sz [] [] := ⟨by simp, by simp, by simp, fun i hi => absurd hi (Nat.not_lt_zero _)⟩
theorem Flat.mono {m m' : Mu} (hle : m.le m') {sz : Nat} {l : List (List AV)} {vs : List Value} (h : Flat m sz l vs) : Flat m' sz l vs := ⟨h.size, h.len, h.one, fun i hi j hj => (h.rel i hi j hj).mono hle⟩
theorem Flat.append {m : Mu} {sz : Nat} {a b : List (List AV)} {xs ys : List Value} (h : Flat m sz a xs) (k : Flat m sz b ys) : Flat m sz (a ++ b) (xs ++ ys) := by
  refine ⟨by simp [h.size, k.size, Nat.add_mul], fun c hc => ?_, fun u hu => ?_, fun i hi j hj => ?_⟩
  · rcases List.mem_append.1 hc with h' | h'
    · exact h.len c h'
    · exact k.len c h'
  · rcases List.mem_append.1 hu with h' | h'
    · exact h.one u h'
    · exact k.one u h'
  · by_cases ha : i < a.length
    · have e : (a ++ b)[i] = a[i] := List.getElem_append_left ha
      simp only [e] at hj ⊢
      have hlt : i * sz + j < xs.length := by rw [h.size]; exact mul_lt_of ha (by rw [← h.len _ (List.getElem_mem ha)]; exact hj) (Nat.le_refl _)
      have := h.rel i ha j hj
      simpa [List.getD, List.getElem?_append, hlt] using this
    · have hb : i - a.length < b.length := by simp at hi; omega
      have e : (a ++ b)[i] = b[i - a.length] := List.getElem_append_right (by omega)
      simp only [e] at hj ⊢
      have hge : ¬ i * sz + j < xs.length := by
        rw [h.size]; have := Nat.mul_le_mul_right sz (show a.length ≤ i by omega); omega
      have := k.rel (i - a.length) hb j hj
      have e2 : i * sz + j - xs.length = (i - a.length) * sz + j := by
        rw [h.size, Nat.sub_mul]; have := Nat.mul_le_mul_right sz (show a.length ≤ i by omega); omega
      simp only [List.getD, List.getElem?_append, hge, if_false, e2]
      exact this
theorem Flat.take {m : Mu} {sz : Nat} {l : List (List AV)} {vs : List Value} (h : Flat m sz l vs) (n : Nat) : Flat m sz (l.take n) (vs.take (n * sz)) := by
  refine ⟨?_, fun c hc => h.len c (List.mem_of_mem_take hc), fun u hu => h.one u (List.mem_of_mem_take hu), fun i hi j hj => ?_⟩
  · rw [List.length_take, List.length_take, h.size]
    rcases Nat.le_total n l.length with hle | hle
    · rw [Nat.min_eq_left hle, Nat.min_eq_left (Nat.mul_le_mul_right _ hle)]
    · rw [Nat.min_eq_right hle, Nat.min_eq_right (Nat.mul_le_mul_right _ hle)]
  · have hi' : i < l.length := by simp at hi; omega
    have hin : i < n := by simp at hi; omega
    have e : (l.take n)[i] = l[i] := by simp
    simp only [e] at hj ⊢
    have := h.rel i hi' j hj
    have hlt : i * sz + j < n * sz := mul_lt_of hin (by rw [← h.len _ (List.getElem_mem hi')]; exact hj) (Nat.le_refl _)
    simpa [List.getD, List.getElem?_take, hlt] using this
theorem Flat.drop {m : Mu} {sz : Nat} {l : List (List AV)} {vs : List Value} (h : Flat m sz l vs) (n : Nat) : Flat m sz (l.drop n) (vs.drop (n * sz)) := by
  refine ⟨?_, fun c hc => h.len c (List.mem_of_mem_drop hc), fun u hu => h.one u (List.mem_of_mem_drop hu), fun i hi j hj => ?_⟩
  · rw [List.length_drop, List.length_drop, h.size, Nat.sub_mul]
  · have hi' : n + i < l.length := by simp at hi; omega
    have e : (l.drop n)[i] = l[n + i] := by simp
    simp only [e] at hj ⊢
    have := h.rel (n + i) hi' j hj
    have e2 : n * sz + (i * sz + j) = (n + i) * sz + j := by rw [Nat.add_mul]; omega
    simpa [List.getD, e2] using this
theorem RowOk.flat {m : Mu} {ty sz cap : Nat} {elems : List (List AV)} {cur : Array Value} (h : RowOk m ty sz cap elems cur) : Flat m sz elems (cur.toList.take (elems.length * sz)) := by
  have hle : elems.length * sz ≤ cur.size := by rw [h.size]; exact Nat.mul_le_mul_right _ h.le
  refine ⟨by simp; omega, h.len, fun u hu => ?_, fun i hi j hj => ?_⟩
  · obtain ⟨k, hk, rfl⟩ := List.getElem_of_mem (List.mem_of_mem_take hu)
    have hk' : k < cur.size := by simpa using hk
    exact h.one k _ (by simp [hk'])
  · have := h.rel i hi j hj
    have hlt : i * sz + j < elems.length * sz := mul_lt_of hi (by rw [← h.len _ (List.getElem_mem hi)]; exact hj) (Nat.le_refl _)
    have hlt2 : i * sz + j < cur.size := by omega
    simpa [List.getD, List.getElem?_take, hlt, hlt2, Array.getD] using this
theorem Flat.rowOk {m : Mu} {ty sz cap : Nat} {l : List (List AV)} {vs : List Value} (h : Flat m sz l vs) {cur : Array Value} (hs : cur.size = cap * sz) (hle : l.length ≤ cap) (hcap : cap ≤ maxLen) (htake : cur.toList.take (l.length * sz) = vs)
    (hone : ∀ u ∈ cur.toList, u.oneCell' = true) : RowOk m ty sz cap l cur := by
  have hle2 : l.length * sz ≤ cur.size := by rw [hs]; exact Nat.mul_le_mul_right _ hle
  refine ⟨hs, hle, hcap, h.len, fun j v hv => hone v (by
    obtain ⟨hlt, rfl⟩ := Array.getElem?_eq_some_iff.1 hv
    simp), fun i hi j hj => ?_⟩
  have := h.rel i hi j hj
  have hlt : i * sz + j < l.length * sz := mul_lt_of hi (by rw [← h.len _ (List.getElem_mem hi)]; exact hj) (Nat.le_refl _)
  have hlt2 : i * sz + j < cur.size := by omega
  rw [← htake] at this
  simpa [List.getD, List.getElem?_take, hlt, hlt2, Array.getD] using this
theorem RowOk.tail_one {m : Mu} {ty sz cap : Nat} {elems : List (List AV)} {cur : Array Value} (h : RowOk m ty sz cap elems cur) : ∀ u ∈ cur.toList, u.oneCell' = true := by
  intro u hu
  obtain ⟨k, hk, rfl⟩ := List.getElem_of_mem hu
  have hk' : k < cur.size := by simpa using hk
  exact h.one k _ (by simp [hk'])
def srcA (x : AV) (S : Store) : Option (List (List AV)) :=
  match x with
  | .lit (.string s) => some (bytesAV s)
  | x => rdS x S
theorem byteCells_flat (m : Mu) (s : ByteArray) : Flat m 1 (bytesAV s) (byteCells s) := by
  have hlen : (bytesAV s).length = s.size := by simp [bytesAV, ByteArray.toList_eq]
  refine ⟨by rw [byteCells_length, hlen, Nat.mul_one], fun c hc => ?_, fun u hu => ?_, fun i hi j hj => ?_⟩
  · obtain ⟨b, _, rfl⟩ := List.mem_map.1 hc; rfl
  · obtain ⟨b, _, rfl⟩ := List.mem_map.1 hu; rfl
  · have : j = 0 := by simp only [bytesAV, List.getElem_map, List.length_singleton] at hj; omega
    subst this
    rw [hlen] at hi
    have hi2 : i < s.data.size := hi
    simp only [bytesAV, List.getElem_map, List.getElem_cons_zero, ByteArray.toList_eq, Array.getElem_toList, Nat.mul_one, Nat.add_zero, byteCells, List.getD, List.getElem?_map]
    rw [List.getElem?_eq_getElem (by simpa using hi2)]
    simp only [Option.map_some, Option.getD_some, Array.getElem_toList]
    exact .lit _ rfl
inductive KindT where
  | str | slice
def kindT (P : Program) (t : TypeId) : Option KindT :=
  match P.underlying t with
  | some .string => some .str
  | some (.slice _) => some .slice
  | _ => none
theorem flat_of_at {m : Mu} {w : World} {l : List (List AV)} {a : Option Addr} {sz sz' : Nat} (h : SliceAt m w l a sz) (hz : ∀ c ∈ l, c.length = sz') (h0 : 0 < sz') (hne : l ≠ []) : ∃ ad vs, a = some ad ∧ Flat m sz' l vs ∧ ∀ j u, vs[j]? = some u → w.cell? (ad.add j) = some u := by
  have hs : sz = sz' := by
    obtain ⟨c, l', rfl⟩ := List.exists_cons_of_ne_nil hne
    rw [← h.len c (by simp), hz c (by simp)]
  subst hs
  have hl0 : 0 < l.length := List.length_pos_iff.2 hne
  obtain ⟨ad, u0, rfl, _⟩ := h.cell 0 hl0 0 (by rw [hz _ (List.getElem_mem hl0)]; exact h0)
  have hcell : ∀ k, k < l.length * sz → ∃ u, w.cell? (ad.add k) = some u ∧ u.oneCell' = true := by
    intro k hk
    have hi : k / sz < l.length := (Nat.div_lt_iff_lt_mul h0).2 hk
    have hj : k % sz < l[k / sz].length := by rw [hz _ (List.getElem_mem hi)]; exact Nat.mod_lt _ h0
    obtain ⟨ad', u, e, g1, g2, _⟩ := h.cell (k / sz) hi (k % sz) hj
    cases e
    rw [Nat.mul_comm, Nat.div_add_mod] at g1
    exact ⟨u, g1, g2⟩
  refine ⟨ad, (List.range (l.length * sz)).map fun k => (w.cell? (ad.add k)).getD undef, rfl, ⟨by simp, h.len, fun u hu => ?_, fun i hi j hj => ?_⟩, fun j u hu => ?_⟩
  · obtain ⟨k, hk, rfl⟩ := List.mem_map.1 hu
    obtain ⟨u, g1, g2⟩ := hcell k (by simpa using hk)
    rw [g1]; exact g2
  · obtain ⟨ad', u, e, g1, g2, g3⟩ := h.cell i hi j hj
    cases e
    have hlt : i * sz + j < l.length * sz := mul_lt_of hi (by rw [← hz _ (List.getElem_mem hi)]; exact hj) (Nat.le_refl _)
    simpa [List.getD, hlt, g1] using g3
  · by_cases hj : j < l.length * sz
    · obtain ⟨u', g1, _⟩ := hcell j hj
      simp only [List.getElem?_map, List.getElem?_range hj, Option.map_some, Option.some.injEq] at hu
      rw [← hu, g1]; rfl
    · rw [List.getElem?_eq_none (by simp; omega)] at hu; cases hu
theorem rdS_flat {P : Program} {m : Mu} {S : Store} {w : World} (h : Rel m S w) {x : AV} {v : Value} {l : List (List AV)} (hv : RelV m x v) (hx : rdS x S = some l) {tx e' : TypeId} (hk : P.underlying tx = some (.slice e')) {sz : Nat} (h0 : 0 < sz) (hz : ∀ c ∈ l, c.length = sz) :
    ∃ news, Src P sz tx v l.length news w ∧ Flat m sz l news := by
  obtain ⟨a, c, sz', rfl, hat⟩ := rdS_ok h hv hx
  by_cases hne : l = []
  · subst hne
    cases a with
    | none => exact ⟨[], Src.ofNil w hk c, Flat.nil m sz⟩
    | some ad => exact ⟨[], Src.ofSlice w hk ad 0 c [] (by simp) (fun j u hu => by cases hu) (fun u hu => by cases hu), Flat.nil m sz⟩
  · obtain ⟨ad, vs, rfl, hf, hc⟩ := flat_of_at hat hz h0 hne
    exact ⟨vs, Src.ofSlice w hk ad _ c vs hf.size hc hf.one, hf⟩
theorem src_ok {P : Program} {m : Mu} {S : Store} {w : World} (h : Rel m S w) {x : AV} {v : Value} {l : List (List AV)} (hv : RelV m x v) {tx : TypeId} {kt : KindT} (hk : kindT P tx = some kt) {sz : Nat} (h0 : 0 < sz)
    (hx : (match kt with | .str => srcA x S | .slice => rdS x S) = some l) (hz : ∀ c ∈ l, c.length = sz) (hstr : kt = .str → sz = 1 ∧ ∃ s, x = .lit (.string s)) :
    ∃ news, Src P sz tx v l.length news w ∧ Flat m sz l news := by
  unfold kindT at hk
  split at hk
  · rename_i hu
    simp only [Option.some.injEq] at hk; subst hk
    obtain ⟨rfl, s, rfl⟩ := hstr rfl
    simp only [srcA, Option.some.injEq] at hx; subst hx
    have := hv.lit_inv; subst this
    have hlen : (bytesAV s).length = s.size := by simp [bytesAV, ByteArray.toList_eq]
    exact ⟨_, by rw [hlen]; exact Src.ofString w hu s, byteCells_flat m s⟩
  · rename_i e' hu
    simp only [Option.some.injEq] at hk; subst hk
    exact rdS_flat h hv hx hu h0 hz
  · cases hk
theorem Rel.rename {m : Mu} {S : Store} {w : World} (h : Rel m S w) {t t' : Nat} {o : AObj} {L : Loc} (hS : S t = some o) (hL : m.loc t = some L) (ht' : m.loc t' = none) : Rel (m.name t' L) ((S.erase t).set t' o) w := by
  have hle : m.le (m.name t' L) := Mu.le_name ht'
  have hne : t ≠ t' := fun e => by subst e; rw [hL] at ht'; cases ht'
  obtain ⟨k1, k2, ob, k3, k4⟩ := h.owned t o L hS hL
  have keep : ∀ x, x ≠ t' → ∀ o', ((S.erase t).set t' o) x = some o' → x ≠ t ∧ S x = some o' := by
    intro x hx o' ho
    rw [Store.set_ne _ _ _ hx] at ho
    by_cases e : x = t
    · subst e; simp at ho
    · rw [Store.erase_ne _ _ e] at ho; exact ⟨e, ho⟩
  have locs : ∀ x, x ≠ t' → (m.name t' L).loc x = m.loc x := fun x hx => by simp [Mu.name, hx]
  refine ⟨h.z, h.h, fun x o' L' hx hx' => ?_, fun x x' L1 L2 h1 h2 h3 h4 h5 => ?_, fun x L' hx => ?_, h.os, h.out, h.tape, ?_⟩
  · by_cases e : x = t'
    · subst e
      simp only [Store.set_same, Option.some.injEq] at hx
      simp only [Mu.name, ↓reduceIte, Option.some.injEq] at hx'
      subst hx hx'
      exact ⟨k1, k2, ob, k3, k4.mono hle⟩
    · obtain ⟨_, g⟩ := keep x e o' hx
      rw [locs x e] at hx'
      obtain ⟨g1, g2, ob', g3, g4⟩ := h.owned x o' L' g hx'
      exact ⟨g1, g2, ob', g3, g4.mono hle⟩
  · have some' : ∀ x, ((S.erase t).set t' o) x ≠ none → ∃ o', ((S.erase t).set t' o) x = some o' := fun x hx => by
      cases e : ((S.erase t).set t' o) x with
      | none => exact absurd e hx
      | some o' => exact ⟨o', rfl⟩
    obtain ⟨o1, e1⟩ := some' x h1
    obtain ⟨o2, e2⟩ := some' x' h2
    by_cases a1 : x = t' <;> by_cases a2 : x' = t'
    · rw [a1, a2]
    · subst a1
      simp only [Mu.name, ↓reduceIte, Option.some.injEq] at h3
      obtain ⟨b1, b2⟩ := keep x' a2 o2 e2
      rw [locs x' a2] at h4
      subst h3
      exact absurd (h.inj t x' L L2 (by rw [hS]; simp) (by rw [b2]; simp) hL h4 h5) (Ne.symm b1)
    · subst a2
      simp only [Mu.name, ↓reduceIte, Option.some.injEq] at h4
      obtain ⟨b1, b2⟩ := keep x a1 o1 e1
      rw [locs x a1] at h3
      subst h4
      exact absurd (h.inj x t L1 L (by rw [b2]; simp) (by rw [hS]; simp) h3 hL h5) b1
    · obtain ⟨b1, b2⟩ := keep x a1 o1 e1
      obtain ⟨c1, c2⟩ := keep x' a2 o2 e2
      rw [locs x a1] at h3
      rw [locs x' a2] at h4
      exact h.inj x x' L1 L2 (by rw [b2]; simp) (by rw [c2]; simp) h3 h4 h5
  · by_cases e : x = t'
    · subst e
      simp only [Mu.name, ↓reduceIte, Option.some.injEq] at hx
      subst hx
      exact h.bound t L hL
    · rw [locs x e] at hx; exact h.bound x L' hx
  · obtain ⟨N, hN⟩ := h.fin
    refine ⟨max N (t' + 1), fun x hx => ⟨by rw [locs x (by omega)]; exact (hN x (by omega)).1, ?_⟩⟩
    rw [Store.set_ne _ _ _ (by omega)]
    by_cases e : x = t
    · subst e; simp
    · rw [Store.erase_ne _ _ e]; exact (hN x (by omega)).2
end Go.Du
namespace Go.Du
open Go
def NextOk (P : Program) (x : Result Next) (R : Value → World → Prop) : Prop :=
  match x with
  | .ok (.value v) w => R v w
  | .ok .skip w => R undef w
  | .ok (.enter f args) w => CallsIn (Fw none) 0 P f args w fun e w' => ∃ v, e = .returned v ∧ R v w'
  | .ok (.round l f tmps assign body) w => RoundIn (Fw none) 0 P l f tmps assign body w fun e w' => ∃ v, e = .returned v ∧ R v w'
  | _ => False
def effR (m : Mu) (K : AV → Store → Prop) (v : Value) (w : World) : Prop :=
  ∃ x S m', K x S ∧ m.le m' ∧ m'.H = m.H ∧ Rel m' S w ∧ RelV m' x v
theorem RelV.undef (m : Mu) : RelV m (.tuple []) undef := .tuple rfl fun j h => absurd h (Nat.not_lt_zero _)
def splice (cs : List AV) (off : Nat) (new : List AV) : List AV := cs.take off ++ new ++ cs.drop (off + new.length)
def stv (sz : Nat) (p x : AV) (S : Store) : Option Store :=
  match p with
  | .ptr t i off => match S t with
    | some (.row ty esz elems) => match elems[i]? with
      | some cs => if okC x = true ∧ (cellsOf x).length = sz ∧ off + sz ≤ cs.length then some (S.set t (.row ty esz (elems.set i (splice cs off (cellsOf x))))) else none
      | none => none
    | _ => none
  | _ => none
theorem take_append_drop_getD {α : Type} {cur : List α} {vs : List α} {o k : Nat} {d : α} (h : o + vs.length ≤ cur.length) :
    (cur.take o ++ vs ++ cur.drop (o + vs.length)).getD k d = if o ≤ k ∧ k < o + vs.length then vs.getD (k - o) d else cur.getD k d := by
  simp only [List.getD, List.getElem?_append, List.length_append, List.length_take, Nat.min_eq_left (show o ≤ cur.length by omega), List.getElem?_take, List.getElem?_drop]
  by_cases h1 : k < o
  · rw [if_pos (show k < o + vs.length by omega), if_pos h1, if_pos h1, if_neg (by omega)]
  · by_cases h2 : k < o + vs.length
    · rw [if_pos h2, if_neg h1, if_pos ⟨by omega, h2⟩]
    · rw [if_neg h2, if_neg (by omega)]
      congr 2
      omega
theorem stv_ok {P : Program} {m : Mu} {S S' : Store} {w : World} (h : Rel m S w) {t : TypeId} {inf : TypeInfo} (ht : P.info? t = some inf) {p x : AV} {v u : Value} (hp : RelV m p v) (hx : RelV m x u) (hs : stv inf.size p x S = some S') :
    ∃ w', (Instr.storeAt t v u).run P w = .ok () w' ∧ Rel m S' w' := by
  unfold stv at hs
  split at hs
  · rename_i t' i off
    split at hs
    · rename_i ty esz elems hS
      split at hs
      · rename_i cs hcs
        split at hs
        · rename_i hc
          obtain ⟨hok, hlen, hle⟩ := hc
          simp only [Option.some.injEq] at hs; subst hs
          obtain ⟨hi, rfl⟩ := List.getElem?_eq_some_iff.1 hcs
          cases hp with
          | ptr hL =>
            rename_i L
            obtain ⟨cur, hb, hsz, hrow⟩ := h.rowCells hL hS
            obtain ⟨c1, c2⟩ := cells_ok hx hok
            have hesz : elems[i].length = esz := hrow.len _ (List.getElem_mem hi)
            have hfit : i * esz + off + inf.size ≤ cur.size := by
              rw [hrow.size]
              have : (i + 1) * esz ≤ L.cap * esz := Nat.mul_le_mul_right _ (by have := hrow.le; omega)
              rw [Nat.add_mul] at this; omega
            have hl2 : u.cells.toList.length = inf.size := by simp [c1, hlen]
            have hone : ∀ y ∈ u.cells.toList, y.oneCell' = true := by
              intro y hy
              obtain ⟨k, hk, rfl⟩ := List.getElem_of_mem hy
              have := (c2 k (by simp at hk; omega)).2
              have hk' : k < u.cells.size := by simpa using hk
              simpa [Array.getD, hk'] using this
            have hst := run_storeCells_at P L.b (i * L.sz + off) ty u.cells.toList 0 cur w hb (by rw [hsz]; simp only [Nat.add_zero]; omega) hone
            simp only [Nat.add_zero] at hst
            refine ⟨w.setRow L.b (cur.toList.take (i * L.sz + off) ++ u.cells.toList ++ cur.toList.drop (i * L.sz + off + u.cells.toList.length)).toArray, ?_, h.write hL (by rw [hS]; simp) (.row hsz ?_) (setRow_heap w L.b cur _ ty _ hb) (fun b hbn => setRow_other w L.b b _ hbn) rfl rfl rfl (by simp)⟩
            · have hcs : u.cells.size = inf.size := by simpa using hl2
              simp [Instr.storeAt, Instr.sureAddr, storeVar, run_sizeOf' ht, hcs, hst]
            · have hn : (cur.toList.take (i * L.sz + off) ++ u.cells.toList ++ cur.toList.drop (i * L.sz + off + u.cells.toList.length)).length = cur.size := by
                simp only [List.length_append, List.length_take, List.length_drop, Array.length_toList, hl2, hsz]; omega
              have hall : ∀ c ∈ elems.set i (splice elems[i] off (cellsOf x)), c.length = esz := by
                intro c hc
                rcases List.mem_or_eq_of_mem_set hc with h' | rfl
                · exact hrow.len c h'
                · simp only [splice, List.length_append, List.length_take, List.length_drop, hlen]; omega
              refine ⟨by simp only [List.size_toArray]; rw [hn, hrow.size], by rw [List.length_set]; exact hrow.le, hrow.capLe, hall, fun j y hy => ?_, fun k hk j hj => ?_⟩
              · simp only [List.getElem?_toArray] at hy
                have hm := List.mem_of_getElem? hy
                rcases List.mem_append.1 hm with hm | hm
                · rcases List.mem_append.1 hm with hm | hm
                  · exact hrow.tail_one y (List.mem_of_mem_take hm)
                  · exact hone y hm
                · exact hrow.tail_one y (List.mem_of_mem_drop hm)
              · rw [List.length_set] at hk
                have hj' : j < esz := by rw [← hall _ (List.getElem_mem (by rw [List.length_set]; exact hk))]; exact hj
                have hgd : ((cur.toList.take (i * L.sz + off) ++ u.cells.toList ++ cur.toList.drop (i * L.sz + off + u.cells.toList.length)).toArray).getD (k * esz + j) undef =
                    if i * esz + off ≤ k * esz + j ∧ k * esz + j < i * esz + off + inf.size then u.cells.getD (k * esz + j - (i * esz + off)) undef else cur.getD (k * esz + j) undef := by
                  have := take_append_drop_getD (cur := cur.toList) (vs := u.cells.toList) (o := i * L.sz + off) (k := k * esz + j) (d := undef) (by rw [hl2, hsz]; simp; omega)
                  rw [hl2, hsz] at this
                  simpa [hl2, hsz, List.getD, Array.getD_eq_getD_getElem?] using this
                rw [hgd]
                by_cases ek : k = i
                · subst ek
                  simp only [List.getElem_set_self] at hj ⊢
                  by_cases hin : off ≤ j ∧ j < off + inf.size
                  · rw [if_pos (by omega)]
                    have := (c2 (j - off) (by omega)).1
                    have e1 : k * esz + j - (k * esz + off) = j - off := by omega
                    rw [e1]
                    have e2 : (splice elems[k] off (cellsOf x))[j] = (cellsOf x)[j - off]'(by omega) := by
                      have hj1 : ¬ j < off := by omega
                      have hj2 : j - off < (cellsOf x).length := by omega
                      simp only [splice]
                      rw [List.getElem_append_left (by simp; omega), List.getElem_append_right (by simp; omega)]
                      congr 1
                      simp; omega
                    rw [e2]; exact this
                  · rw [if_neg (by omega)]
                    have hjl : j < elems[k].length := by omega
                    have := hrow.rel k hi j hjl
                    have e2 : (splice elems[k] off (cellsOf x))[j] = elems[k][j] := by
                      simp only [splice]
                      by_cases hj1 : j < off
                      · rw [List.getElem_append_left (by simp; omega), List.getElem_append_left (by simp; omega)]; simp
                      · rw [List.getElem_append_right (by simp; omega)]
                        simp only [List.length_append, List.length_take, List.getElem_drop]
                        congr 1; omega
                    rw [e2]; exact this
                · simp only [List.getElem_set_ne (Ne.symm ek)] at hj ⊢
                  have hkl := hrow.len _ (List.getElem_mem hk)
                  have hout : ¬ (i * esz + off ≤ k * esz + j ∧ k * esz + j < i * esz + off + inf.size) := by
                    rintro ⟨g1, g2⟩
                    rcases Nat.lt_or_gt_of_ne ek with hlt | hgt
                    · have := Nat.mul_le_mul_right esz (show k + 1 ≤ i by omega); rw [Nat.add_mul] at this; omega
                    · have := Nat.mul_le_mul_right esz (show i + 1 ≤ k by omega); rw [Nat.add_mul] at this; omega
                  rw [if_neg hout]
                  exact hrow.rel k hk j hj
        · cases hs
      · cases hs
    · cases hs
  · cases hs
def apK (e sz bytes : Nat) (base : AV) (l : List (List AV)) (S : Store) (K : AV → Store → Prop) : Prop :=
  (∀ c ∈ l, c.length = sz) ∧
  match base with
  | .lit (.slice none 0 0) => l.length * bytes ≤ 140737488355328 ∧ l.length ≤ 9223372036854775807 ∧ (l = [] → K (.lit (.slice none 0 0)) S) ∧ (l ≠ [] → ∀ t, S t = none → K (.sref t 0 l.length) (S.set t (.row e sz l)))
  | .s0 => l.length * bytes ≤ 140737488355328 ∧ l.length ≤ 9223372036854775807 ∧ (l = [] → K .s0 S) ∧ (l ≠ [] → ∀ t, S t = none → K (.sref t 0 l.length) (S.set t (.row e sz l)))
  | .sref t off len => match S t with
    | some (.row e' sz' elems) => e' = e ∧ sz' = sz ∧
      if off + len = elems.length then off = 0 ∧ (len + l.length) * bytes ≤ 140737488355328 ∧ len + l.length ≤ 9223372036854775807 ∧ ∀ t', S.erase t t' = none → K (.sref t' 0 (len + l.length)) ((S.erase t).set t' (.row e sz (elems ++ l)))
      else off + len + l.length ≤ elems.length ∧ K (.sref t off (len + l.length)) (S.set t (.row e sz (elems.take (off + len) ++ l ++ elems.drop (off + len + l.length))))
    | some (.rowF e' sz' elems) => e' = e ∧ sz' = sz ∧ off = 0 ∧ elems.length < len + l.length ∧ len ≤ elems.length ∧ (len + l.length) * bytes ≤ 140737488355328 ∧ len + l.length ≤ 9223372036854775807 ∧
      ∀ t', S t' = none → K (.sref t' 0 (len + l.length)) (S.set t' (.row e sz (elems.take len ++ l)))
    | _ => False
  | _ => False
theorem run_append_room_at {P : Program} {w : World} (t tx ty e : TypeId) (i : TypeInfo) (ht : P.underlying t = some (.slice e)) (hi : P.info? e = some i) (b off sLen sCap : Nat) (x : Value) (n : Nat) (news : List Value) (hs : Src P i.size tx x n news w)
    (hroom : sLen + n ≤ sCap) {cur : Array Value} {e' : TypeId} (hb : w.heap[b]? = some (.cells cur e' (0, 0))) (hfit : off + sLen * i.size + news.length ≤ cur.size) :
    (Builtin.append_ #[t, tx] ty #[.slice (some ⟨b, off, none⟩) sLen sCap, x]).run P w = .ok (.slice (some ⟨b, off, none⟩) (sLen + n) sCap) (w.setRow b (cur.toList.take (off + sLen * i.size) ++ news ++ cur.toList.drop (off + sLen * i.size + news.length)).toArray) := by
  have hst := run_storeCells_at P b (off + sLen * i.size) e' news 0 cur w hb (by simpa using hfit) hs.one
  simp only [Nat.add_zero] at hst
  rcases hs.kind with ⟨e', hk⟩ | hk <;> simp [Builtin.append_, run_underlying ht, run_underlying hk, sizeOf, typeInfo, hi, hs.len, hroom, hs.cells, Addr.add_lit, hst]
theorem zeroCells_one {z : Value} (hz : ∀ u ∈ z.cells.toList, u.oneCell' = true) (h0 : 0 < z.cells.size) (n : Nat) : ∀ u ∈ (Builtin.zeroCells z.cells n).toList, u.oneCell' = true := by
  intro u hu
  simp only [Builtin.zeroCells, Array.toList_map, List.mem_map] at hu
  obtain ⟨k, _, rfl⟩ := hu
  have hlt : k % z.cells.size < z.cells.size := Nat.mod_lt _ h0
  refine hz _ ?_
  simp [hlt]
theorem apK_ok {P : Program} {m : Mu} {S : Store} {w : World} (h : Rel m S w) {t tx ty e : TypeId} {i : TypeInfo} {z : Value} (ht : P.underlying t = some (.slice e)) (hi : P.info? e = some i) (hz : i.zero = some z)
    (hzs : z.cells.size = i.size) (hz1 : ∀ u ∈ z.cells.toList, u.oneCell' = true) (h0 : 0 < i.size) {base : AV} {v x : Value} (hv : RelV m base v) {l : List (List AV)} {news : List Value} (hs : Src P i.size tx x l.length news w) (hf : Flat m i.size l news)
    {K : AV → Store → Prop} (hK : apK e i.size i.bytes base l S K) : ∃ u w', (Builtin.append_ #[t, tx] ty #[v, x]).run P w = .ok u w' ∧ effR m K u w' := by
  unfold apK at hK
  obtain ⟨_, hK⟩ := hK
  have newRowOk : ∀ {a : List (List AV)} {xs : List Value} {cap : Nat} {m' : Mu}, m.le m' → Flat m i.size a xs → a.length ≤ cap → cap ≤ maxLen → RowOk m' e i.size cap a (xs.toArray ++ Builtin.zeroCells z.cells (cap - a.length)) := by
    intro a xs cap m' hle fa hc hcm
    refine (fa.mono hle).rowOk ?_ hc hcm ?_ ?_
    · simp only [Array.size_append, List.size_toArray, size_zeroCells, hzs, fa.size, ← Nat.add_mul]
      congr 1; omega
    · simp only [Array.toList_append, ← fa.size]; exact List.take_left
    · intro u hu
      simp only [Array.toList_append] at hu
      rcases List.mem_append.1 hu with h' | h'
      · exact fa.one u h'
      · exact zeroCells_one hz1 (by omega) _ u h'
  split at hK
  ·
    obtain ⟨hby, h63, hK0, hK1⟩ := hK
    have := hv.lit_inv; subst this
    by_cases hl : l = []
    · subst hl
      refine ⟨.slice none 0 0, w, ?_, _, _, m, hK0 rfl, .refl m, rfl, h, .lit _ rfl⟩
      have hc := hs.cells
      simp only [List.length_nil] at hc
      rcases hs.kind with ⟨e', hk⟩ | hk <;> simp [Builtin.append_, run_underlying ht, run_underlying hk, sizeOf, typeInfo, hi, hs.len, hc]
    · obtain ⟨t', f1, f2⟩ := h.fresh
      have hpos : 0 < l.length := List.length_pos_iff.2 hl
      have hcap := growslice_fits (need := 0 + l.length) (old := 0) (bytes := i.bytes) (by omega) (by rw [Nat.zero_add]; exact hby)
      have hr := run_append_grow_src (P := P) w t tx ty e i z ht hi hz none 0 0 [] (run_firstCells_none w.drew i.size 0 0 0) x l.length news hs (by omega) (by omega) hcap
      simp only [Nat.zero_add, List.nil_append] at hr
      have hge := grownCap_ge w l.length 0 e
      have hcm := grownCap_le_maxLen w l.length 0 e (by simp only [maxLen]; omega)
      have hnew := h.drew.new f1 (L := ⟨w.heap.size, i.size, grownCap w l.length 0 e⟩) rfl (ob := .cells (news.toArray ++ Builtin.zeroCells z.cells (grownCap w l.length 0 e - l.length)) e) (.row rfl (newRowOk (.refl m) hf hge hcm))
      refine ⟨_, _, hr, _, _, _, hK1 hl t' f2, Mu.le_name f1, rfl, hnew, ?_⟩
      have := RelV.sref (m := m.name t' ⟨w.heap.size, i.size, grownCap w l.length 0 e⟩) (t := t') (off := 0) (len := l.length) (L := ⟨w.heap.size, i.size, grownCap w l.length 0 e⟩) (by simp [Mu.name]) (by simp; exact hge)
      simpa using this
  ·
    obtain ⟨hby, h63, hK0, hK1⟩ := hK
    obtain ⟨ad, rfl⟩ : ∃ ad, v = .slice ad 0 0 := by cases hv; exact ⟨_, rfl⟩
    have hold : (Builtin.firstCells i.size 0 (.slice ad 0 0)).run P w.drew = .ok (([] : List Value).toArray) w.drew := by
      cases ad with
      | none => exact run_firstCells_none w.drew i.size 0 0 0
      | some ad => exact run_firstCells_some w.drew i.size 0 ad 0 0 [] (by simp) (fun j v hj => by simp at hj)
    by_cases hl : l = []
    · subst hl
      refine ⟨.slice ad 0 0, w, ?_, _, _, m, hK0 rfl, .refl m, rfl, h, .s0 _⟩
      have hc := hs.cells
      simp only [List.length_nil] at hc
      have hnews : news = [] := List.eq_nil_of_length_eq_zero (by simpa using hf.size)
      subst hnews
      rcases hs.kind with ⟨e', hk⟩ | hk <;> cases ad <;> simp [Builtin.append_, run_underlying ht, run_underlying hk, sizeOf, typeInfo, hi, hs.len, hc, storeCells]
    · obtain ⟨t', f1, f2⟩ := h.fresh
      have hpos : 0 < l.length := List.length_pos_iff.2 hl
      have hcap := growslice_fits (need := 0 + l.length) (old := 0) (bytes := i.bytes) (by omega) (by rw [Nat.zero_add]; exact hby)
      have hr := run_append_grow_src (P := P) w t tx ty e i z ht hi hz ad 0 0 [] hold x l.length news hs (by omega) (by omega) hcap
      simp only [Nat.zero_add, List.nil_append] at hr
      have hge := grownCap_ge w l.length 0 e
      have hcm := grownCap_le_maxLen w l.length 0 e (by simp only [maxLen]; omega)
      have hnew := h.drew.new f1 (L := ⟨w.heap.size, i.size, grownCap w l.length 0 e⟩) rfl (ob := .cells (news.toArray ++ Builtin.zeroCells z.cells (grownCap w l.length 0 e - l.length)) e) (.row rfl (newRowOk (.refl m) hf hge hcm))
      refine ⟨_, _, hr, _, _, _, hK1 hl t' f2, Mu.le_name f1, rfl, hnew, ?_⟩
      have := RelV.sref (m := m.name t' ⟨w.heap.size, i.size, grownCap w l.length 0 e⟩) (t := t') (off := 0) (len := l.length) (L := ⟨w.heap.size, i.size, grownCap w l.length 0 e⟩) (by simp [Mu.name]) (by simp; exact hge)
      simpa using this
  ·
    rename_i t' off len
    split at hK
    · rename_i e' sz' elems hS
      obtain ⟨rfl, rfl, hK⟩ := hK
      cases hv with
      | sref hL hcap =>
        rename_i L
        obtain ⟨cur, hb, hsz, hrow⟩ := h.rowCells hL hS
        split at hK
        · rename_i hend
          obtain ⟨rfl, hby, h63, hK⟩ := hK
          simp only [Nat.zero_add] at hend
          obtain ⟨u', f1, f2⟩ := h.fresh
          have hne : u' ≠ t' := fun e => by subst e; rw [hL] at f1; cases f1
          have f3 : S.erase t' u' = none := by rw [Store.erase_ne _ _ hne]; exact f2
          by_cases hroom : len + l.length ≤ L.cap
          · have hfit : 0 + len * i.size + news.length ≤ cur.size := by
              rw [hf.size, hrow.size, Nat.zero_add, ← Nat.add_mul]; exact Nat.mul_le_mul_right _ hroom
            have hr := run_append_room_at (P := P) (w := w) t tx ty e' i ht hi L.b 0 len L.cap x l.length news hs hroom hb hfit
            have hren := h.rename hS hL f1
            have hL' : (m.name u' L).loc u' = some L := by simp [Mu.name]
            have hle := Mu.le_name (L := L) f1
            have hrow' : RowOk (m.name u' L) e' i.size L.cap (elems ++ l) (cur.toList.take (0 + len * i.size) ++ news ++ cur.toList.drop (0 + len * i.size + news.length)).toArray := by
              have fl := (hrow.flat.append hf).mono hle
              refine fl.rowOk ?_ (by rw [List.length_append]; omega) hrow.capLe ?_ ?_
              · simp only [List.size_toArray, List.length_append, List.length_take, List.length_drop, Array.length_toList]
                rw [hf.size] at hfit ⊢
                rw [← hrow.size]; omega
              · simp only [Nat.zero_add, ← hend]
                have : ((elems ++ l).length * i.size) = (cur.toList.take (len * i.size) ++ news).length := by
                  rw [List.length_append, List.length_append, List.length_take, hf.size, Nat.add_mul, ← hend]
                  have : len * i.size ≤ cur.toList.length := by simp; rw [hrow.size]; exact Nat.mul_le_mul_right _ (by omega)
                  omega
                rw [this]; exact List.take_left
              · intro y hy
                simp only [List.mem_append] at hy
                rcases hy with (hy | hy) | hy
                · exact hrow.tail_one y (List.mem_of_mem_take hy)
                · exact hf.one y hy
                · exact hrow.tail_one y (List.mem_of_mem_drop hy)
            have hw := hren.write (w' := w.setRow L.b (cur.toList.take (0 + len * i.size) ++ news ++ cur.toList.drop (0 + len * i.size + news.length)).toArray) hL' (by simp) (.row hsz hrow') (setRow_heap w L.b cur _ e' _ hb) (fun b hbn => setRow_other w L.b b _ hbn) rfl rfl rfl (by simp)
            rw [Store.set_set] at hw
            have hoff : 0 * L.sz = 0 := Nat.zero_mul _
            refine ⟨_, _, by simpa [hoff] using hr, _, _, _, hK u' f3, hle, rfl, hw, ?_⟩
            have := RelV.sref (m := m.name u' L) (t := u') (off := 0) (len := len + l.length) hL' (by omega)
            simpa using this
          · have hold : (Builtin.firstCells i.size len (.slice (some ⟨L.b, 0, none⟩) len L.cap)).run P w.drew = .ok (cur.toList.take (elems.length * i.size)).toArray w.drew := by
              refine run_firstCells_some w.drew i.size len ⟨L.b, 0, none⟩ len L.cap _ ?_ (fun j v hj => ?_)
              · rw [hrow.flat.size, hend]
              · rw [Addr.add_lit, Nat.zero_add]
                have hb' : w.drew.heap[L.b]? = some (.cells cur e' (0, 0)) := hb
                rw [cell_of_block hb']
                rw [List.getElem?_take] at hj
                split at hj
                · simpa using hj
                · cases hj
            have hcap' := growslice_fits (need := len + l.length) (old := L.cap) (bytes := i.bytes) (by omega) hby
            have hr := run_append_grow_src (P := P) w t tx ty e' i z ht hi hz (some ⟨L.b, 0, none⟩) len L.cap _ hold x l.length news hs (by omega) (by omega) hcap'
            have hge := grownCap_ge w (len + l.length) L.cap e'
            have hcm := grownCap_le_maxLen w (len + l.length) L.cap e' (by simp only [maxLen]; omega)
            have fl := hrow.flat.append hf
            have hlen : (elems ++ l).length = len + l.length := by rw [List.length_append, hend]
            have hrow' := newRowOk (m' := m) (.refl m) fl (cap := grownCap w (len + l.length) L.cap e') (by rw [hlen]; exact hge) hcm
            rw [hlen] at hrow'
            have hdrop : Rel m (S.erase t') w := h.drop fun y o hy => by
              by_cases ey : y = t'
              · subst ey; simp at hy
              · rwa [Store.erase_ne _ _ ey] at hy
            have hnew := hdrop.drew.new f1 (L := ⟨w.heap.size, i.size, grownCap w (len + l.length) L.cap e'⟩) rfl (.row rfl hrow')
            refine ⟨_, _, by simpa using hr, _, _, _, hK u' f3, Mu.le_name f1, rfl, hnew, ?_⟩
            have := RelV.sref (m := m.name u' ⟨w.heap.size, i.size, grownCap w (len + l.length) L.cap e'⟩) (t := u') (off := 0) (len := len + l.length) (L := ⟨w.heap.size, i.size, grownCap w (len + l.length) L.cap e'⟩) (by simp [Mu.name]) (by simp; exact hge)
            simpa using this
        · rename_i hend
          obtain ⟨hfitl, hK⟩ := hK
          have hroom : len + l.length ≤ L.cap - off := by have := hrow.le; omega
          have hoff : off * L.sz + len * i.size = (off + len) * i.size := by rw [hsz, Nat.add_mul]
          have hfit : off * L.sz + len * i.size + news.length ≤ cur.size := by
            rw [hoff, hf.size, hrow.size, ← Nat.add_mul]; exact Nat.mul_le_mul_right _ (by have := hrow.le; omega)
          have hr := run_append_room_at (P := P) (w := w) t tx ty e' i ht hi L.b (off * L.sz) len (L.cap - off) x l.length news hs hroom hb hfit
          have fl : Flat m i.size (elems.take (off + len) ++ l ++ elems.drop (off + len + l.length)) ((cur.toList.take (elems.length * i.size)).take ((off + len) * i.size) ++ news ++ (cur.toList.take (elems.length * i.size)).drop ((off + len + l.length) * i.size)) :=
            ((hrow.flat.take _).append hf).append (hrow.flat.drop _)
          have hrow' : RowOk m e' i.size L.cap (elems.take (off + len) ++ l ++ elems.drop (off + len + l.length)) (cur.toList.take (off * L.sz + len * i.size) ++ news ++ cur.toList.drop (off * L.sz + len * i.size + news.length)).toArray := by
            have hll : (elems.take (off + len) ++ l ++ elems.drop (off + len + l.length)).length = elems.length := by simp; omega
            have hmul : (off + len + l.length) * i.size ≤ elems.length * i.size := Nat.mul_le_mul_right _ hfitl
            have hmul2 : (off + len) * i.size ≤ (off + len + l.length) * i.size := Nat.mul_le_mul_right _ (by omega)
            have hcs : elems.length * i.size ≤ cur.size := by rw [hrow.size]; exact Nat.mul_le_mul_right _ hrow.le
            have hnl : (off + len) * i.size + news.length = (off + len + l.length) * i.size := by rw [hf.size, ← Nat.add_mul]
            refine fl.rowOk ?_ (by rw [hll]; exact hrow.le) hrow.capLe ?_ ?_
            · simp only [List.size_toArray, List.length_append, List.length_take, List.length_drop, Array.length_toList, hoff, ← hrow.size]; omega
            · rw [hll, hoff, hnl]
              apply List.ext_getElem?
              intro k
              by_cases hk : k < elems.length * i.size
              · simp only [List.getElem?_take, hk, if_true, List.getElem?_append, List.length_append, List.length_take, List.length_drop, Array.length_toList, List.getElem?_drop]
                have m1 : min ((off + len) * i.size) cur.size = (off + len) * i.size := by omega
                have m2 : min ((off + len) * i.size) (min (elems.length * i.size) cur.size) = (off + len) * i.size := by omega
                rw [m1, m2]
                by_cases k1 : k < (off + len) * i.size
                · simp [k1, show k < (off + len) * i.size + news.length by omega]
                · by_cases k2 : k < (off + len) * i.size + news.length
                  · simp [k1, k2]
                  · simp only [k1, k2, if_false]
                    have : (off + len + l.length) * i.size + (k - ((off + len) * i.size + news.length)) = k := by omega
                    rw [this, if_pos hk]
              · rw [List.getElem?_take, if_neg hk, List.getElem?_eq_none]
                simp only [List.length_append, List.length_take, List.length_drop, Array.length_toList]
                omega
            · intro y hy
              simp only [List.mem_append] at hy
              rcases hy with (hy | hy) | hy
              · exact hrow.tail_one y (List.mem_of_mem_take hy)
              · exact hf.one y hy
              · exact hrow.tail_one y (List.mem_of_mem_drop hy)
          have hw := h.write (w' := w.setRow L.b (cur.toList.take (off * L.sz + len * i.size) ++ news ++ cur.toList.drop (off * L.sz + len * i.size + news.length)).toArray) hL (by rw [hS]; simp) (.row hsz hrow') (setRow_heap w L.b cur _ e' _ hb) (fun b hbn => setRow_other w L.b b _ hbn) rfl rfl rfl (by simp)
          refine ⟨_, _, hr, _, _, _, hK, .refl m, rfl, hw, .sref hL (by omega)⟩
    · rename_i e' sz' elems hS
      obtain ⟨rfl, rfl, rfl, hbig, hlen, hby, h63, hK⟩ := hK
      cases hv with
      | sref hL hcap =>
        rename_i L
        obtain ⟨_, _, ob, hb, ho⟩ := h.owned t' _ L hS hL
        cases ho with
        | rowF hsz hfull hrow =>
          rename_i cur
          obtain ⟨u', f1, f2⟩ := h.fresh
          have hroom : ¬ len + l.length ≤ L.cap := by omega
          have hold : (Builtin.firstCells i.size len (.slice (some ⟨L.b, 0, none⟩) len L.cap)).run P w.drew = .ok (cur.toList.take (len * i.size)).toArray w.drew := by
            refine run_firstCells_some w.drew i.size len ⟨L.b, 0, none⟩ len L.cap _ ?_ (fun j v hj => ?_)
            · rw [List.length_take, Array.length_toList, hrow.size]; exact Nat.min_eq_left (Nat.mul_le_mul_right _ (by omega))
            · rw [Addr.add_lit, Nat.zero_add]
              have hb' : w.drew.heap[L.b]? = some (.cells cur e' (0, 0)) := hb
              rw [cell_of_block hb']
              rw [List.getElem?_take] at hj
              split at hj
              · simpa using hj
              · cases hj
          have hcap' := growslice_fits (need := len + l.length) (old := L.cap) (bytes := i.bytes) (by omega) hby
          have hr := run_append_grow_src (P := P) w t tx ty e' i z ht hi hz (some ⟨L.b, 0, none⟩) len L.cap _ hold x l.length news hs (by omega) (by omega) hcap'
          have hge := grownCap_ge w (len + l.length) L.cap e'
          have hcm := grownCap_le_maxLen w (len + l.length) L.cap e' (by simp only [maxLen]; omega)
          have ft := hrow.flat.take len
          have et : (cur.toList.take (elems.length * i.size)).take (len * i.size) = cur.toList.take (len * i.size) := by
            rw [List.take_take, Nat.min_eq_left (Nat.mul_le_mul_right _ hlen)]
          rw [et] at ft
          have fl := ft.append hf
          have hlen2 : (elems.take len ++ l).length = len + l.length := by rw [List.length_append, List.length_take, Nat.min_eq_left hlen]
          have hrow' := newRowOk (m' := m) (.refl m) fl (cap := grownCap w (len + l.length) L.cap e') (by rw [hlen2]; exact hge) hcm
          rw [hlen2] at hrow'
          have hnew := h.drew.new f1 (L := ⟨w.heap.size, i.size, grownCap w (len + l.length) L.cap e'⟩) rfl (.row rfl hrow')
          refine ⟨_, _, by simpa using hr, _, _, _, hK u' f2, Mu.le_name f1, rfl, hnew, ?_⟩
          have := RelV.sref (m := m.name u' ⟨w.heap.size, i.size, grownCap w (len + l.length) L.cap e'⟩) (t := u') (off := 0) (len := len + l.length) (L := ⟨w.heap.size, i.size, grownCap w (len + l.length) L.cap e'⟩) (by simp [Mu.name]) (by simp; exact hge)
          simpa using this
    · exact hK.elim
  · exact hK.elim
end Go.Du
namespace Go.Du
open Go
def NoNG (P : Program) : Prop := ∀ (g : Nat) (fn : Func), P.funcs[g]? = some fn → fn.name ≠ "runtime.NumGoroutine"
def hasBody (P : Program) (g : FuncId) : Bool :=
  match P.funcs[g]? with
  | some fn => fn.body.isSome
  | none => false
def AExt (P : Program) (g : FuncId) (args : List AV) (S : Store) (K : AV → Store → Prop) : Prop :=
  ∀ m w args', Rel m S w → RelVs m args args' → NextOk P ((callFunc g args').run P w) (effR m K)
def AVCall (P : Program) (fv : AV) (args : List AV) (S : Store) (K : AV → Store → Prop) : Prop :=
  ∀ m w fv' args', Rel m S w → RelV m fv fv' → RelVs m args args' → NextOk P ((do let d ← Deferred.ofValue fv' args'; invoke d.target d.args : Sem Next).run P w) (effR m K)
def AInv (P : Program) (recv : AV) (name : String) (args : List AV) (S : Store) (K : AV → Store → Prop) : Prop :=
  ∀ m w recv' args', Rel m S w → RelV m recv recv' → RelVs m args args' → NextOk P ((callMethod recv' name args').run P w) (effR m K)
def callW (P : Program) (fv : AV) (args : List AV) (S : Store) (K : AV → Store → Prop) : Prop :=
  match fv with
  | .func (.func g) first cap => match hasBody P g with
    | true => ATriple P g (first ++ args ++ cap) S K
    | false => AExt P g (first ++ args ++ cap) S K
  | fv => AVCall P fv args S K
section
variable {P : Program} {m : Mu} {w : World} {S : Store} {K : AV → Store → Prop}
theorem RelVs.append {a b : List AV} {a' b' : Array Value} (h : RelVs m a a') (k : RelVs m b b') : RelVs m (a ++ b) (a' ++ b') := by
  refine ⟨by simp [h.1, k.1], fun i hi => ?_⟩
  by_cases ha : i < a.length
  · have := h.2 i ha
    have ha' : i < a'.size := by rw [← h.1]; exact ha
    simpa [Array.getD, ha, ha', Array.getElem_append, show i < a'.size + b'.size by omega] using this
  · have hb : i - a.length < b.length := by simp at hi; omega
    have := k.2 _ hb
    have hb' : i - a'.size < b'.size := by rw [← h.1, ← k.1]; exact hb
    have hn : ¬ i < a'.size := by rw [← h.1]; exact ha
    rw [List.getElem_append_right (by omega)]
    have e : (a' ++ b').getD i undef = b'.getD (i - a'.size) undef := by
      simp only [Array.getD_eq_getD_getElem?, Array.getElem?_append, hn, if_false]
    rw [e, ← h.1]
    exact this
theorem callFunc_enter (hP : NoNG P) {g : FuncId} (hb : hasBody P g = true) (args : Array Value) : (callFunc g args).run P w = .ok (.enter g args) w := by
  unfold hasBody at hb
  split at hb
  · rename_i fn hfn
    have hn := hP g fn hfn
    obtain ⟨c, hc⟩ := Option.isSome_iff_exists.1 hb
    simp [callFunc, hfn, hn, hc]
  · cases hb
theorem NextOk.mono {x : Result Next} {R R' : Value → World → Prop} (h : NextOk P x R) (hr : ∀ v w, R v w → R' v w) : NextOk P x R' := by
  cases x with
  | halt _ _ => exact h
  | ok n w =>
    cases n <;> first
      | exact h
      | exact hr _ _ h
      | exact CallsIn.mono h fun e w' ⟨v, he, hv⟩ => ⟨v, he, hr _ _ hv⟩
      | exact RoundIn.mono h fun e w' ⟨v, he, hv⟩ => ⟨v, he, hr _ _ hv⟩
theorem triple_next (hP : NoNG P) {g : FuncId} (hb : hasBody P g = true) {args : List AV} {args' : Array Value} (h : Rel m S w) (ha : RelVs m args args') (ht : ATriple P g args S K) : NextOk P ((callFunc g args').run P w) (effR m K) := by
  rw [callFunc_enter hP hb]
  exact (ht m w args' h ha).mono fun e w' ⟨v, x, S', m', he, hK, hle, hH, hrel, hv⟩ => ⟨v, he, x, S', m', hK, hle, hH, hrel, hv⟩
theorem callW_ok (hP : NoNG P) (h : Rel m S w) {fv : AV} {fv' : Value} (hf : RelV m fv fv') {args : List AV} {args' : Array Value} (ha : RelVs m args args') (hc : callW P fv args S K) :
    NextOk P ((do let d ← Deferred.ofValue fv' args'; invoke d.target d.args : Sem Next).run P w) (effR m K) := by
  unfold callW at hc
  split at hc
  · rename_i g first cap
    cases hf with
    | func h1 h2 r1 r2 =>
      rename_i first' cap'
      have hall : RelVs m (first ++ args ++ cap) (first' ++ args' ++ cap') := RelVs.append (RelVs.append ⟨h1, r1⟩ ha) ⟨h2, r2⟩
      have e : (do let d ← Deferred.ofValue (.func (.func g) first' cap') args'; invoke d.target d.args : Sem Next).run P w = (callFunc g (first' ++ args' ++ cap')).run P w := by
        simp [Deferred.ofValue, invoke]
      rw [e]
      split at hc
      · rename_i hb; exact triple_next hP hb h hall hc
      · exact hc m w _ h hall
  · exact hc m w fv' args' h hf ha
theorem AInv_found (hP : NoNG P) {ty : TypeId} {v : AV} {name : String} {g : FuncId} (hb : hasBody P g = true) {args : List AV}
    (hm : ∀ (v' : Value) (w : World), v'.oneCell' = true ∨ (∃ cs, v' = .agg cs) → (method (P.types.size + Made.depth) ty v' name).run P w = .ok (g, v') w) (hok : okC v = true) (h : ATriple P g (v :: args) S K) : AInv P (.iface ty v) name args S K := by
  intro m w recv' args' hr hf ha
  cases hf with
  | iface hv =>
    rename_i v'
    have h1 : v'.oneCell' = true ∨ ∃ cs, v' = .agg cs := by
      cases hv <;> first | exact .inl rfl | exact .inl ‹_› | exact .inr ⟨_, rfl⟩ | (cases hok; done)
    have := hm v' w h1
    simp only [callMethod, Sem.run_bind, run_program, Result.andThen_ok, this]
    refine triple_next hP hb hr (args := v :: args) (args' := #[v'] ++ args') ⟨by simp [ha.1]; omega, fun i hi => ?_⟩ h
    cases i with
    | zero => simpa [Array.getD, show 0 < 1 + args'.size by omega] using hv
    | succ i =>
      have hi' : i < args.length := by simpa using hi
      have hi2 : i < args'.size := by rw [← ha.1]; exact hi'
      have := ha.2 i hi'
      have e : (#[v'] ++ args').getD (i + 1) undef = args'.getD i undef := by
        simp only [Array.getD_eq_getD_getElem?, Array.getElem?_append]
        simp
      rw [e]
      simpa using this
end
def afill : List AV → List (Nat × Nat × AV) → Option (List AV)
  | cells, [] => some cells
  | cells, (off, sz, x) :: rest => if okC x = true ∧ (cellsOf x).length = sz ∧ off + sz ≤ cells.length then afill (splice cells off (cellsOf x)) rest else none
def placeT (P : Program) (t : TypeId) (i : Nat) : Option (Nat × Nat) :=
  match P.underlying t with
  | some (.struct fs) => match fs[i]? with
    | some f => (P.info? f.type).map fun inf => (f.offset, inf.size)
    | none => none
  | some (.array _ e) => (P.info? e).map fun inf => (i * inf.size, inf.size)
  | _ => none
def placed (P : Program) (t : TypeId) (st : St) : List (Nat × Operand) → Option (List (Nat × Nat × AV))
  | [] => some []
  | (i, x) :: l => match placeT P t i, placed P t st l with
    | some (off, sz), some r => some ((off, sz, aev st x) :: r)
    | _, _ => none
def sizesOk (P : Program) (t : TypeId) : Bool :=
  match P.underlying t with
  | some (.struct fs) => fs.all fun f => (P.info? f.type).isSome
  | some (.array _ e) => (P.info? e).isSome
  | _ => false
def abld (zero : List AV) (parts : List (Nat × Nat × AV)) : Option AV := (afill zero parts).map .agg
def opB (P : Program) (t : TypeId) (parts : Array (Nat × Operand)) (st : St) : Option AV :=
  match P.info? t with
  | some i => match i.zero with
    | some (.agg z) => if z.all Value.oneCell' && sizesOk P t then (match placed P t st parts.toList with | some ps => abld (z.toList.map .lit) ps | none => none) else none
    | _ => none
  | none => none
section
variable {P : Program} {m : Mu} {w : World} {S : Store}
def CellsRel (m : Mu) (cs : List AV) (a : Array Value) : Prop := cs.length = a.size ∧ ∀ j (h : j < cs.length), RelV m cs[j] (a.getD j undef) ∧ (a.getD j undef).oneCell' = true
theorem foldl_set_getD (off : Nat) : ∀ (vs : List Value) (i : Nat) (a : Array Value), off + i + vs.length ≤ a.size →
    ((vs.zipIdx i).foldl (fun cs (x : Value × Nat) => cs.setIfInBounds (off + x.2) x.1) a).size = a.size ∧
    ∀ k, ((vs.zipIdx i).foldl (fun cs (x : Value × Nat) => cs.setIfInBounds (off + x.2) x.1) a).getD k undef = if off + i ≤ k ∧ k < off + i + vs.length then vs.getD (k - (off + i)) undef else a.getD k undef
  | [], i, a, _ => by
    refine ⟨rfl, fun k => ?_⟩
    rw [if_neg (by simp only [List.length_nil, Nat.add_zero]; omega)]; rfl
  | v :: vs, i, a, h => by
    simp only [List.length_cons] at h
    have ih := foldl_set_getD off vs (i + 1) (a.setIfInBounds (off + i) v) (by simp; omega)
    simp only [List.zipIdx_cons, List.foldl_cons]
    refine ⟨by rw [ih.1]; simp, fun k => ?_⟩
    rw [ih.2 k]
    simp only [List.length_cons]
    by_cases h1 : off + (i + 1) ≤ k ∧ k < off + (i + 1) + vs.length
    · rw [if_pos h1, if_pos (by omega)]
      have : k - (off + i) = (k - (off + (i + 1))) + 1 := by omega
      rw [this]; simp [List.getD]
    · rw [if_neg h1]
      by_cases h2 : k = off + i
      · subst h2
        rw [if_pos (by omega)]
        have : off + i < a.size := by omega
        simp [Array.getD, this, List.getD]
      · rw [if_neg (by omega)]
        simp only [Array.getD_eq_getD_getElem?, Array.getElem?_setIfInBounds]
        rw [if_neg (fun e => h2 e.symm)]
theorem afill_ok (place : Nat → Option (Nat × Nat)) : ∀ (parts : List (Nat × Nat × AV)) (vs : List (Nat × Value)) (cs cs' : List AV) (a : Array Value), afill cs parts = some cs' → CellsRel m cs a →
    parts.length = vs.length → (∀ k (h : k < parts.length) (h' : k < vs.length), place vs[k].1 = some (parts[k].1, parts[k].2.1) ∧ RelV m parts[k].2.2 vs[k].2) → ∃ a', Instr.fill place a vs = some a' ∧ CellsRel m cs' a'
  | [], [], cs, cs', a, h, hc, _, _ => by
    simp only [afill, Option.some.injEq] at h; subst h
    exact ⟨a, rfl, hc⟩
  | [], _ :: _, _, _, _, _, _, hl, _ => by simp at hl
  | _ :: _, [], _, _, _, _, _, hl, _ => by simp at hl
  | (off, sz, x) :: parts, (i, v) :: vs, cs, cs', a, h, hc, hl, hp => by
    simp only [afill] at h
    split at h
    · rename_i hcond
      obtain ⟨hok, hlen, hle⟩ := hcond
      obtain ⟨p0, r0⟩ := hp 0 (by simp) (by simp)
      simp only [List.getElem_cons_zero] at p0 r0
      obtain ⟨c1, c2⟩ := cells_ok r0 hok
      have hfold := foldl_set_getD off v.cells.toList 0 a (by rw [← hc.1]; simp [c1, hlen]; exact hle)
      have hst : CellsRel m (splice cs off (cellsOf x)) (v.cells.zipIdx.foldl (fun cs (c, j) => cs.setIfInBounds (off + j) c) a) := by
        have e : v.cells.zipIdx.foldl (fun cs (c, j) => cs.setIfInBounds (off + j) c) a = (v.cells.toList.zipIdx 0).foldl (fun cs (x : Value × Nat) => cs.setIfInBounds (off + x.2) x.1) a := by
          rw [← Array.foldl_toList]; simp
        rw [e]
        refine ⟨by rw [hfold.1, ← hc.1]; simp [splice]; omega, fun j hj => ?_⟩
        rw [hfold.2 j]
        simp only [Nat.add_zero, Array.length_toList, c1]
        have hjl : j < cs.length := by simp [splice] at hj; omega
        by_cases hin : off ≤ j ∧ j < off + (cellsOf x).length
        · rw [if_pos hin]
          have := c2 (j - off) (by omega)
          have e2 : (splice cs off (cellsOf x))[j] = (cellsOf x)[j - off]'(by omega) := by
            simp only [splice]
            rw [List.getElem_append_left (by simp; omega), List.getElem_append_right (by simp; omega)]
            congr 1
            simp; omega
          rw [e2]
          simpa [List.getD, Array.getD_eq_getD_getElem?] using this
        · rw [if_neg hin]
          have := hc.2 j hjl
          have e2 : (splice cs off (cellsOf x))[j] = cs[j] := by
            simp only [splice]
            by_cases hj1 : j < off
            · rw [List.getElem_append_left (by simp; omega), List.getElem_append_left (by simp; omega)]; simp
            · rw [List.getElem_append_right (by simp; omega)]
              simp only [List.length_append, List.length_take, List.getElem_drop]
              congr 1; omega
          rw [e2]; exact this
      obtain ⟨a', ha', hc'⟩ := afill_ok place parts vs _ cs' _ h hst (by simpa using hl) (fun k h h' => by
        have := hp (k + 1) (by simp; omega) (by simp; omega)
        simpa using this)
      refine ⟨a', ?_, hc'⟩
      unfold Instr.fill
      rw [p0]
      simp only [c1, hlen]
      rw [if_neg (by rw [← hc.1]; simp; omega)]
      exact ha'
    · cases h
theorem placed_spec {t : TypeId} {st : St} : ∀ {l : List (Nat × Operand)} {ps : List (Nat × Nat × AV)}, placed P t st l = some ps → ps.length = l.length ∧ ∀ k (h : k < l.length) (h' : k < ps.length), placeT P t l[k].1 = some (ps[k].1, ps[k].2.1) ∧ ps[k].2.2 = aev st l[k].2
  | [], ps, h => by simp only [placed, Option.some.injEq] at h; subst h; simp
  | (i, x) :: l, ps, h => by
    simp only [placed] at h
    split at h
    · rename_i off sz r hp hr
      simp only [Option.some.injEq] at h; subst h
      obtain ⟨g1, g2⟩ := placed_spec hr
      refine ⟨by simp [g1], fun k hk hk' => ?_⟩
      cases k with
      | zero => exact ⟨hp, rfl⟩
      | succ k => exact g2 k (by simpa using hk) (by simpa using hk')
    · cases h
theorem opB_ok {n : Nat} {st : St} {a : Act} (ht : RelT m n st a.tmps) {o : Oper} (hops : opdsOk n o = true) {t : TypeId} {parts : Array (Nat × Operand)} (ho : o.op = .build t parts) {x : AV} (hx : opB P t parts st = some x) : pureOk P m w a.eval o x := by
  have hall : ∀ y ∈ o.op.operands.toList, opdOk n y = true := fun y hy => Array.all_eq_true'.1 hops y (by simpa using hy)
  have rel : ∀ p ∈ parts.toList, RelV m (aev st p.2) (a.eval p.2) := fun p hp => relV_aev ht (hall p.2 (by simp only [ho, Op.operands]; simp; exact ⟨p.1, by simpa using hp⟩))
  unfold opB at hx
  split at hx
  · rename_i i hi
    split at hx
    · rename_i z hz
      split at hx
      · rename_i hcond
        simp only [Bool.and_eq_true] at hcond
        obtain ⟨hz1, hsz⟩ := hcond
        split at hx
        · rename_i ps hps
          obtain ⟨cs', hcs, rfl⟩ := Option.map_eq_some_iff.1 hx
          obtain ⟨g1, g2⟩ := placed_spec hps
          have hz0 : CellsRel m (z.toList.map .lit) z := by
            refine ⟨by simp, fun j hj => ?_⟩
            simp only [List.length_map, Array.length_toList] at hj
            have h1 := Array.all_eq_true.1 hz1 j hj
            simp only [List.getElem_map, Array.getElem_toList, Array.getD, hj, ↓reduceDIte]
            exact ⟨.lit _ h1, h1⟩
          have hkey : ∀ (place : Nat → Option (Nat × Nat)), (∀ p ∈ parts.toList, place p.1 = placeT P t p.1) → ∃ a', Instr.fill place z (parts.toList.map fun p => (p.1, a.eval p.2)) = some a' ∧ CellsRel m cs' a' := by
            intro place hpl
            refine afill_ok place ps _ _ cs' z hcs hz0 (by simp [g1]) (fun k h h' => ?_)
            have hk : k < parts.toList.length := by rw [← g1]; exact h
            obtain ⟨q1, q2⟩ := g2 k hk h
            simp only [List.getElem_map]
            rw [hpl _ (List.getElem_mem hk), q1, q2]
            exact ⟨rfl, rel _ (List.getElem_mem hk)⟩
          have hend : ∀ a', CellsRel m cs' a' → RelV m (.agg cs') (.agg a') := fun a' hc => .agg hc.1 (fun j hj => (hc.2 j hj).2) (fun j hj => (hc.2 j hj).1)
          unfold sizesOk at hsz
          split at hsz
          · rename_i fs hu
            have hsizes : (fs.mapM fun f => do pure (f.offset, ← sizeOf f.type) : Sem (Array (Nat × Nat))).run P w = .ok (fs.map fun f => (f.offset, P.cellsOf f.type)) w := by
              have gen : ∀ (l : List Field), (∀ f ∈ l, (P.info? f.type).isSome = true) → ∀ w, (l.mapM fun f => do pure (f.offset, ← sizeOf f.type) : Sem (List (Nat × Nat))).run P w = .ok (l.map fun f => (f.offset, P.cellsOf f.type)) w := by
                intro l
                induction l with
                | nil => intro _ w; rfl
                | cons f l ih =>
                  intro hl w
                  obtain ⟨inf, hinf⟩ := Option.isSome_iff_exists.1 (hl f (by simp))
                  simp only [List.mapM_cons, Sem.run_bind, run_sizeOf' hinf, Result.andThen_ok, Sem.run_pure, ih (fun g hg => hl g (by simp [hg])), List.map_cons]
                  simp [Program.cellsOf, hinf]
              rw [Array.mapM_eq_mapM_toList]
              simp only [Sem.run_map, gen fs.toList (fun f hf => Array.all_eq_true'.1 hsz f (by simpa using hf)), Result.andThen_ok]
              congr 1
              apply Array.ext'
              simp
            obtain ⟨a', ha', hc'⟩ := hkey (fun i => (fs.map fun f => (f.offset, P.cellsOf f.type))[i]?) (fun p hp => by
              simp only [placeT, hu, Array.getElem?_map]
              cases hf : fs[p.1]? with
              | none => rfl
              | some f =>
                have : (P.info? f.type).isSome = true := Array.all_eq_true'.1 hsz f (by
                  obtain ⟨hlt, rfl⟩ := Array.getElem?_eq_some_iff.1 hf; simp)
                obtain ⟨inf, hinf⟩ := Option.isSome_iff_exists.1 this
                simp [Program.cellsOf, hinf])
            refine ⟨.agg a', ?_, hend a' hc'⟩
            have ha2 : Instr.fill (fun i => (fs.map fun f => (f.offset, P.cellsOf f.type))[i]?) z (parts.map fun (i, x) => (i, a.eval x)).toList = some a' := by
              rw [← ha']; congr 1; simp
            simp only [execOp, ho, Instr.build, Sem.run_bind, zeroValue, typeInfo, run_program, Result.andThen_ok, hi, Sem.run_pure, hz, run_underlying hu, hsizes, Value.cells]
            rw [ha2]
            rfl
          · rename_i k e hu
            obtain ⟨inf, hinf⟩ := Option.isSome_iff_exists.1 hsz
            obtain ⟨a', ha', hc'⟩ := hkey (fun i => some (i * inf.size, inf.size)) (fun p hp => by simp [placeT, hu, hinf])
            refine ⟨.agg a', ?_, hend a' hc'⟩
            have ha2 : Instr.fill (fun i => some (i * inf.size, inf.size)) z (parts.map fun (i, x) => (i, a.eval x)).toList = some a' := by
              rw [← ha']; congr 1; simp
            simp only [execOp, ho, Instr.build, Sem.run_bind, zeroValue, typeInfo, run_program, Result.andThen_ok, hi, Sem.run_pure, hz, run_underlying hu, run_sizeOf' hinf, Value.cells]
            rw [ha2]
            rfl
          · cases hsz
        · cases hx
      · cases hx
    · cases hx
  · cases hx
end
end Go.Du
namespace Go.Du
open Go
theorem beqBA {k s : ByteArray} : (k == s) = true ↔ k = s := by
  cases k; cases s
  show ((_ : Array UInt8) == _) = true ↔ _
  simp
def mIdx (k : ByteArray) : List (Value × AV) → Option (Option Nat)
  | [] => some none
  | (.string s, _) :: es => if k == s then some (some 0) else (mIdx k es).map (Option.map (· + 1))
  | _ :: _ => none
def alook (z : AV) (ok : Bool) (x k : AV) (S : Store) : Option AV :=
  match x, k with
  | .mref t, .lit (.string s) => match S t with
    | some (.map es) => match mIdx s es with
      | some (some i) => match es[i]? with
        | some e => some (if ok then .tuple [e.2, .lit (.bool true)] else e.2)
        | none => none
      | some none => some (if ok then .tuple [z, .lit (.bool false)] else z)
      | none => none
    | _ => none
  | _, _ => none
def amput (x k v : AV) (S : Store) : Option Store :=
  match x, k with
  | .mref t, .lit (.string s) => match S t with
    | some (.map es) => match mIdx s es with
      | some (some i) => some (S.set t (.map (es.set i (.string s, v))))
      | some none => some (S.set t (.map (es ++ [(.string s, v)])))
      | none => none
    | _ => none
  | _, _ => none
def amdel (x k : AV) (S : Store) : Option Store :=
  match x, k with
  | .mref t, .lit (.string s) => match S t with
    | some (.map es) => match mIdx s es with
      | some (some i) => some (S.set t (.map (es.eraseIdx i)))
      | some none => some S
      | none => none
    | _ => none
  | _, _ => none
section
variable {P : Program} {m : Mu} {w : World} {S : Store}
theorem mIdx_lt {k : ByteArray} : ∀ {es : List (Value × AV)} {i : Nat}, mIdx k es = some (some i) → i < es.length ∧ ∃ v, es[i]? = some (.string k, v)
  | [], i, h => by simp [mIdx] at h
  | (kv, v) :: es, i, h => by
    cases kv <;> simp only [mIdx, reduceCtorEq] at h
    rename_i s
    split at h
    · rename_i he
      simp only [Option.some.injEq] at h; subst h
      refine ⟨by simp, v, ?_⟩
      have : k = s := beqBA.1 he
      simp [this]
    · obtain ⟨r, hr, hi⟩ := Option.map_eq_some_iff.1 h
      obtain ⟨j, rfl, rfl⟩ := Option.map_eq_some_iff.1 hi
      obtain ⟨g1, v', g2⟩ := mIdx_lt hr
      exact ⟨by simp; omega, v', by simpa using g2⟩
theorem findNow_ok {k : ByteArray} : ∀ (es : List (Value × AV)) (es' : List MapEntry) (i : Nat) (r : Option Nat), es.length = es'.length → (∀ j (h : j < es.length) (h' : j < es'.length), es'[j].key = es[j].1) → mIdx k es = some r →
    Instr.findNow .string (.string k) es' i = some (match r with | some j => some (i + j, (es'[j]?.map (·.val)).getD undef) | none => none)
  | [], [], i, r, _, _, h => by
    simp only [mIdx, Option.some.injEq] at h; subst h; rfl
  | [], _ :: _, _, _, h, _, _ => by simp at h
  | _ :: _, [], _, _, h, _, _ => by simp at h
  | (kv, v) :: es, e :: es', i, r, hl, hk, h => by
    have h0 := hk 0 (by simp) (by simp)
    simp only [List.getElem_cons_zero] at h0
    cases kv <;> simp only [mIdx, reduceCtorEq] at h
    rename_i s
    unfold Instr.findNow
    rw [h0]
    simp only [Instr.sameNow]
    split at h
    · rename_i he
      simp only [Option.some.injEq] at h; subst h
      simp [he]
    · rename_i he
      obtain ⟨r', hr, hi⟩ := Option.map_eq_some_iff.1 h
      have he' : (k == s) = false := by simpa using he
      rw [he']
      have ih := findNow_ok es es' (i + 1) r' (by simpa using hl) (fun j h h' => by
        have := hk (j + 1) (by simp; omega) (by simp; omega)
        simpa using this) hr
      simp only [ih]
      subst hi
      cases r' with
      | none => rfl
      | some j => simp; omega
theorem Rel.mapAt (h : Rel m S w) {t : Nat} {L : Loc} (hL : m.loc t = some L) {es : List (Value × AV)} (hS : S t = some (.map es)) :
    ∃ es' clock, w.heap[L.b]? = some (.map es' clock) ∧ ObjOk m L (.map es) (.map es' clock) := by
  obtain ⟨_, _, ob, hb, ho⟩ := h.owned t _ L hS hL
  cases ho with
  | map a b c d => exact ⟨_, _, hb, .map a b c d⟩
theorem run_getObj_map {b : Nat} {es : Array MapEntry} {c : Nat} (h : w.heap[b]? = some (.map es c)) : (getObj b).run P w = .ok (.map es c) w := by
  simp [getObj, Sem.run, h]
theorem run_setObj_map {b : Nat} {es es' : Array MapEntry} {c c' : Nat} (h : w.heap[b]? = some (.map es c)) : (setObj b (.map es' c')).run P w = .ok () { w with heap := w.heap.setIfInBounds b (.map es' c') } := by
  simp [setObj, Sem.run, h]
theorem Rel.putMap (h : Rel m S w) {t : Nat} {L : Loc} (hL : m.loc t = some L) (hS : S t ≠ none) {es : Array MapEntry} {c : Nat} {o : AObj} (ho : ObjOk m L o (.map es c)) (hlt : L.b < w.heap.size) :
    Rel m (S.set t o) { w with heap := w.heap.setIfInBounds L.b (.map es c) } :=
  h.write hL hS ho (by simp [hlt]) (fun b hb => by simp [Ne.symm hb]) rfl rfl rfl (by simp)
theorem run_checkKey_string {kt : TypeId} (hk : P.underlying kt = some .string) (s : ByteArray) (e : Bool) (n : Nat) : (Instr.checkKey e (n + 1) kt (.string s)).run P w = .ok () w := by
  simp [Instr.checkKey, run_underlying hk]
theorem map_find (h : Rel m S w) {t : Nat} {L : Loc} (hL : m.loc t = some L) {es : List (Value × AV)} (hS : S t = some (.map es)) {kt : TypeId} (hk : P.underlying kt = some .string) {s : ByteArray} {r : Option Nat} (hr : mIdx s es = some r) :
    ∃ es' clock, w.heap[L.b]? = some (.map es' clock) ∧ ObjOk m L (.map es) (.map es' clock) ∧
      (Instr.findKey kt (.string s) es'.toList).run P w = .ok (match r with | some j => some (j, (es'[j]?.map (·.val)).getD undef) | none => none) w := by
  obtain ⟨es', clock, hb, ho⟩ := h.mapAt hL hS
  refine ⟨es', clock, hb, ho, ?_⟩
  cases ho with
  | map hl hbn hd hkk =>
    have := findNow_ok (k := s) es es'.toList 0 r (by simpa using hl) (fun j h1 h2 => by
      obtain ⟨e, he, hkey, _⟩ := hkk j h1
      obtain ⟨hlt, rfl⟩ := Array.getElem?_eq_some_iff.1 he
      simpa using hkey) hr
    unfold Instr.findKey
    simp only [Sem.run_bind, run_underlying hk, Result.andThen_ok, this, Sem.run_pure]
    cases r with
    | none => rfl
    | some j => simp
theorem alook_ok (h : Rel m S w) {t kt et : TypeId} (ht : P.underlying t = some (.map kt et)) (hk : P.underlying kt = some .string) {inf : TypeInfo} {z : Value} (hi : P.info? et = some inf) (hz : inf.zero = some z) (hzc : constOk z = true)
    {x k r : AV} {v u : Value} (hx : RelV m x v) (hkv : RelV m k u) {ok : Bool} (he : alook (AV.ofValue z) ok x k S = some r) : ∃ y, (Instr.lookup t v u ok).run P w = .ok y w ∧ RelV m r y := by
  unfold alook at he
  split at he
  · rename_i t' s
    split at he
    · rename_i es hS
      cases hx with
      | mref hL =>
        rename_i L
        have := hkv.lit_inv; subst this
        have rz := relV_ofValue m hzc
        split at he
        · rename_i i hidx
          obtain ⟨es', clock, hb, ho, hf⟩ := map_find (P := P) h hL hS hk hidx
          split at he
          · rename_i e hei
            simp only [Option.some.injEq] at he; subst he
            cases ho with
            | map hl hbn hd hkk =>
              obtain ⟨hlt, rfl⟩ := List.getElem?_eq_some_iff.1 hei
              obtain ⟨e', he', _, hv⟩ := hkk i hlt
              refine ⟨if ok then .tuple #[e'.val, .bool true] else e'.val, ?_, ?_⟩
              · simp [Instr.lookup, run_underlying ht, run_getObj_map hb, run_checkKey_string hk, hf, he']
              · cases ok
                · exact hv
                · refine .tuple rfl fun j hj => ?_
                  match j, hj with
                  | 0, _ => exact hv
                  | 1, _ => exact .lit _ rfl
          · cases he
        · rename_i hidx
          obtain ⟨es', clock, hb, ho, hf⟩ := map_find (P := P) h hL hS hk hidx
          simp only [Option.some.injEq] at he; subst he
          refine ⟨if ok then .tuple #[z, .bool false] else z, ?_, ?_⟩
          · simp [Instr.lookup, run_underlying ht, run_getObj_map hb, run_checkKey_string hk, hf, zeroValue, typeInfo, hi, hz]
          · cases ok
            · exact rz
            · refine .tuple rfl fun j hj => ?_
              match j, hj with
              | 0, _ => exact rz
              | 1, _ => exact .lit _ rfl
        · cases he
    · cases he
  · cases he
theorem amput_ok (h : Rel m S w) {t kt et : TypeId} (ht : P.underlying t = some (.map kt et)) (hk : P.underlying kt = some .string) {x k y : AV} {v u q : Value} (hx : RelV m x v) (hkv : RelV m k u) (hy : RelV m y q) {S' : Store} (he : amput x k y S = some S') :
    ∃ w', (Instr.mapUpdate t v u q).run P w = .ok () w' ∧ Rel m S' w' := by
  unfold amput at he
  split at he
  · rename_i t' s
    split at he
    · rename_i es hS
      cases hx with
      | mref hL =>
        rename_i L
        have := hkv.lit_inv; subst this
        split at he
        · rename_i i hidx
          obtain ⟨es', clock, hb, ho, hf⟩ := map_find (P := P) h hL hS hk hidx
          simp only [Option.some.injEq] at he; subst he
          obtain ⟨hlt, v0, hv0⟩ := mIdx_lt hidx
          cases ho with
          | map hl hbn hd hkk =>
            obtain ⟨e', he', hke, _⟩ := hkk i hlt
            have hkey : e'.key = .string s := by
              rw [hke]
              obtain ⟨hlt', e0⟩ := List.getElem?_eq_some_iff.1 hv0
              rw [e0]
            have hi' : i < es'.size := by omega
            refine ⟨_, ?_, h.putMap hL (by rw [hS]; simp) (es := es'.modify i fun e => { e with key := .string s, val := q }) (c := clock) (.map (by simp [hl]) (fun j e hj => ?_) (fun j j' e1 e2 h1 h2 h3 => ?_) (fun j hj => ?_)) (lt_of_heap hb)⟩
            · simp [Instr.mapUpdate, run_underlying ht, run_getObj_map hb, run_checkKey_string hk, hf, he', hkey, Instr.keyThatStays, Instr.sameBits, run_setObj_map hb]
              intro hh; rw [beqBA.2 rfl] at hh; cases hh
            · rw [Array.getElem?_modify] at hj
              split at hj
              · obtain ⟨e0, h0, rfl⟩ := Option.map_eq_some_iff.1 hj
                exact hbn j e0 h0
              · exact hbn j e hj
            · rw [Array.getElem?_modify] at h1 h2
              have b1 : ∃ e0, es'[j]? = some e0 ∧ e0.born = e1.born := by
                split at h1
                · obtain ⟨e0, h0, rfl⟩ := Option.map_eq_some_iff.1 h1; exact ⟨e0, h0, rfl⟩
                · exact ⟨e1, h1, rfl⟩
              have b2 : ∃ e0, es'[j']? = some e0 ∧ e0.born = e2.born := by
                split at h2
                · obtain ⟨e0, h0, rfl⟩ := Option.map_eq_some_iff.1 h2; exact ⟨e0, h0, rfl⟩
                · exact ⟨e2, h2, rfl⟩
              obtain ⟨f1, g1, g2⟩ := b1
              obtain ⟨f2, g3, g4⟩ := b2
              exact hd j j' f1 f2 g1 g3 (by rw [g2, g4, h3])
            · rw [List.length_set] at hj
              obtain ⟨e0, h0, h1, h2⟩ := hkk j hj
              rw [Array.getElem?_modify]
              by_cases eij : i = j
              · subst eij
                rw [if_pos rfl, h0]
                exact ⟨_, rfl, by simp, by simpa using hy⟩
              · rw [if_neg eij, h0]
                refine ⟨e0, rfl, ?_, ?_⟩
                · rw [List.getElem_set_ne eij]; exact h1
                · rw [List.getElem_set_ne eij]; exact h2
        · rename_i hidx
          obtain ⟨es', clock, hb, ho, hf⟩ := map_find (P := P) h hL hS hk hidx
          simp only [Option.some.injEq] at he; subst he
          cases ho with
          | map hl hbn hd hkk =>
            refine ⟨_, ?_, h.putMap hL (by rw [hS]; simp) (es := es'.push { key := .string s, val := q, born := clock }) (c := clock + 1) (.map (by simp [hl]) (fun j e hj => ?_) (fun j j' e1 e2 h1 h2 h3 => ?_) (fun j hj => ?_)) (lt_of_heap hb)⟩
            · simp [Instr.mapUpdate, run_underlying ht, run_getObj_map hb, run_checkKey_string hk, hf, run_setObj_map hb]
            · rw [Array.getElem?_push] at hj
              split at hj
              · simp only [Option.some.injEq] at hj; subst hj; simp
              · have := hbn j e hj; omega
            · rw [Array.getElem?_push] at h1 h2
              split at h1 <;> split at h2
              · omega
              · simp only [Option.some.injEq] at h1; subst h1
                have := hbn _ _ h2
                simp only at h3; omega
              · simp only [Option.some.injEq] at h2; subst h2
                have := hbn _ _ h1
                simp only at h3; omega
              · exact hd j j' e1 e2 h1 h2 h3
            · by_cases hjl : j < es.length
              · obtain ⟨e0, h0, h1, h2⟩ := hkk j hjl
                refine ⟨e0, ?_, ?_, ?_⟩
                · rw [Array.getElem?_push, if_neg (by omega)]; exact h0
                · rw [List.getElem_append_left hjl]; exact h1
                · rw [List.getElem_append_left hjl]; exact h2
              · have : j = es.length := by simp at hj; omega
                subst this
                exact ⟨_, by rw [hl, Array.getElem?_push, if_pos rfl], by simp, by simpa using hy⟩
        · cases he
    · cases he
  · cases he
theorem amdel_ok (h : Rel m S w) {t kt et ty : TypeId} {ats : Array TypeId} (hat : ats[0]? = some t) (ht : P.underlying t = some (.map kt et)) (hk : P.underlying kt = some .string) {x k : AV} {v u : Value} (hx : RelV m x v) (hkv : RelV m k u) {S' : Store} (he : amdel x k S = some S') :
    ∃ w', (Builtin.delete_ ats ty #[v, u]).run P w = .ok (.tuple #[]) w' ∧ Rel m S' w' := by
  unfold amdel at he
  split at he
  · rename_i t' s
    split at he
    · rename_i es hS
      cases hx with
      | mref hL =>
        rename_i L
        have := hkv.lit_inv; subst this
        split at he
        · rename_i i hidx
          obtain ⟨es', clock, hb, ho, hf⟩ := map_find (P := P) h hL hS hk hidx
          simp only [Option.some.injEq] at he; subst he
          obtain ⟨hlt, v0, hv0⟩ := mIdx_lt hidx
          cases ho with
          | map hl hbn hd hkk =>
            have hi' : i < es'.size := by omega
            have hget : ∀ j, (es'.eraseIdxIfInBounds i)[j]? = if j < i then es'[j]? else es'[j + 1]? := by
              intro j
              simp only [Array.eraseIdxIfInBounds, hi', ↓reduceDIte]
              rw [Array.getElem?_eraseIdx]
            refine ⟨_, ?_, h.putMap hL (by rw [hS]; simp) (es := es'.eraseIdxIfInBounds i) (c := clock) (.map ?_ (fun j e hj => ?_) (fun j j' e1 e2 h1 h2 h3 => ?_) (fun j hj => ?_)) (lt_of_heap hb)⟩
            · simp [Builtin.delete_, hat, run_underlying ht, run_getObj_map hb, run_checkKey_string hk, hf, run_setObj_map hb]
            · simp [List.length_eraseIdx, hlt, Array.eraseIdxIfInBounds, hi', hl]
            · rw [hget] at hj
              split at hj
              · exact hbn j e hj
              · exact hbn (j + 1) e hj
            · rw [hget] at h1 h2
              split at h1 <;> split at h2
              · exact hd j j' e1 e2 h1 h2 h3
              · have := hd j (j' + 1) e1 e2 h1 h2 h3; omega
              · have := hd (j + 1) j' e1 e2 h1 h2 h3; omega
              · have := hd (j + 1) (j' + 1) e1 e2 h1 h2 h3; omega
            · rw [List.length_eraseIdx, if_pos hlt] at hj
              rw [hget]
              by_cases hji : j < i
              · obtain ⟨e0, h0, h1, h2⟩ := hkk j (by omega)
                refine ⟨e0, by rw [if_pos hji]; exact h0, ?_, ?_⟩
                · rw [List.getElem_eraseIdx_of_lt _ hji]; exact h1
                · rw [List.getElem_eraseIdx_of_lt _ hji]; exact h2
              · obtain ⟨e0, h0, h1, h2⟩ := hkk (j + 1) (by omega)
                refine ⟨e0, by rw [if_neg hji]; exact h0, ?_, ?_⟩
                · rw [List.getElem_eraseIdx_of_ge _ (by omega)]; exact h1
                · rw [List.getElem_eraseIdx_of_ge _ (by omega)]; exact h2
        · rename_i hidx
          obtain ⟨es', clock, hb, ho, hf⟩ := map_find (P := P) h hL hS hk hidx
          simp only [Option.some.injEq] at he; subst he
          have hw : ({ w with heap := w.heap.setIfInBounds L.b (.map es' clock) } : World) = w := by
            have : w.heap.setIfInBounds L.b (.map es' clock) = w.heap := by
              apply Array.ext_getElem?
              intro j
              rw [Array.getElem?_setIfInBounds]
              split
              · rename_i e; subst e; rw [if_pos (lt_of_heap hb)]; exact hb.symm
              · rfl
            rw [this]
          refine ⟨w, ?_, h⟩
          simp [Builtin.delete_, hat, run_underlying ht, run_getObj_map hb, run_checkKey_string hk, hf, run_setObj_map hb, hw]
        · cases he
    · cases he
  · cases he
end
end Go.Du
namespace Go.Du
open Go
def rangeW (x : AV) (S : Store) (K : AV → Store → Prop) : Prop :=
  match x with
  | .mref mt => match S mt with
    | some (.map es) => ∀ births clock it, births.length = es.length → births.Nodup → (∀ b ∈ births, b < clock) → (S.set mt (.mapB es births clock)) it = none → K (.itr it) ((S.set mt (.mapB es births clock)).set it (.iter mt [] clock))
    | _ => False
  | _ => False
def nextW (x : AV) (S : Store) (K : AV → Store → Prop) : Prop :=
  match x with
  | .itr it => match S it with
    | some (.iter mt seen clock) => match S mt with
      | some (.mapB es births clock') => clock' = clock ∧ it ≠ mt ∧ ((∀ b ∈ births, b ∈ seen) → K (.tuple [.lit (.bool false)]) S) ∧
          ∀ (i b : Nat) (e : Value × AV), births[i]? = some b → es[i]? = some e → b ∉ seen → constOk e.1 = true ∧ K (.tuple [.lit (.bool true), AV.ofValue e.1, e.2]) (S.set it (.iter mt (seen ++ [b]) clock))
      | _ => False
    | _ => False
  | _ => False
def entryW (x : AV) (S : Store) (K : AV → Store → Prop) : Prop :=
  match x with
  | .itr it => match S it with
    | some (.iter mt seen clock) => match S mt with
      | some (.mapB es births clock') => clock' = clock ∧ ∃ (i b : Nat) (e : Value × AV) (seen0 : List Nat), seen = seen0 ++ [b] ∧ births[i]? = some b ∧ es[i]? = some e ∧ constOk e.1 = true ∧ K (.tuple [AV.ofValue e.1, e.2]) S
      | _ => False
    | _ => False
  | _ => False
section
variable {P : Program} {m : Mu} {w : World} {S : Store} {K : AV → Store → Prop}
theorem rangeW_ok (h : Rel m S w) {x : AV} {v : Value} (hv : RelV m x v) {t kt et : TypeId} (ht : P.underlying t = some (.map kt et)) (hK : rangeW x S K) : ∃ u w', (Instr.range t v).run P w = .ok u w' ∧ effR m K u w' := by
  unfold rangeW at hK
  split at hK
  · rename_i mt
    split at hK
    · rename_i es hS
      cases hv with
      | mref hL =>
        rename_i L
        obtain ⟨g1, g2, ob, hb, ho⟩ := h.owned mt _ L hS hL
        cases ho with
        | map hl hbn hd hk =>
          rename_i es' clock
          have hnd : (es'.toList.map (·.born)).Nodup := by
            rw [List.nodup_iff_pairwise_ne, List.pairwise_iff_getElem]
            intro i j hi hj hij e
            simp only [List.length_map, Array.length_toList] at hi hj
            simp only [List.getElem_map, Array.getElem_toList] at e
            have := hd i j es'[i] es'[j] (by simp [hi]) (by simp [hj]) e
            omega
          have hlt : ∀ b ∈ es'.toList.map (·.born), b < clock := by
            intro b hb'
            obtain ⟨e, he, rfl⟩ := List.mem_map.1 hb'
            obtain ⟨i, hi, rfl⟩ := List.mem_iff_getElem.1 he
            simp only [Array.length_toList] at hi
            have := hbn i es'[i] (by simp [hi])
            simpa using this
          have h2 : Rel m (S.set mt (.mapB es (es'.toList.map (·.born)) clock)) w := h.write hL (by rw [hS]; simp) (.mapB hl rfl hlt hnd hk) hb (fun _ _ => rfl) rfl rfl rfl rfl
          obtain ⟨it, f1, f2⟩ := h2.fresh
          have hnew := h2.new f1 (L := ⟨w.heap.size, 0, 0⟩) rfl (o := .iter mt [] clock) (ob := .mapIter (some L.b) clock #[] clock) (.iter hL rfl)
          refine ⟨.pointer (some ⟨w.heap.size, 0, none⟩), _, ?_, _, _, _, hK _ clock it (by simp [hl]) hnd hlt f2, Mu.le_name f1, rfl, hnew, ?_⟩
          · simp [Instr.range, run_underlying ht, getObj, Sem.run, hb, newObj]
          · have := RelV.itr (m := m.name it ⟨w.heap.size, 0, 0⟩) (t := it) (L := ⟨w.heap.size, 0, 0⟩) (by simp [Mu.name])
            exact this
    · exact hK.elim
  · exact hK.elim
theorem leftOf_mem {es : Array MapEntry} {seen : Array Nat} {e : MapEntry} : e ∈ (leftOf es seen).toList ↔ e ∈ es.toList ∧ e.born ∉ seen.toList := by
  unfold leftOf
  simp
theorem nextW_ok (h : Rel m S w) {x : AV} {v : Value} (hv : RelV m x v) (ty : TypeId) (hK : nextW x S K) : ∃ u w', (Instr.next v false ty).run P w = .ok u w' ∧ effR m K u w' := by
  unfold nextW at hK
  split at hK
  · rename_i it
    split at hK
    · rename_i mt seen clock hSi
      split at hK
      · rename_i es births clock' hSm
        obtain ⟨rfl, hne, hK0, hK1⟩ := hK
        cases hv with
        | itr hL =>
          rename_i L
          obtain ⟨g1, g2, ob, hb, ho⟩ := h.owned it _ L hSi hL
          cases ho with
          | iter hm hs =>
            rename_i Lm seen'
            obtain ⟨k1, k2, ob2, hb2, ho2⟩ := h.owned mt _ Lm hSm hm
            cases ho2 with
            | mapB hl hbn hc hd hk =>
              rename_i es'
              have hold : ∀ x ∈ es'.toList, x.born < clock' := fun x hx => hc _ (by rw [← hbn]; exact List.mem_map.2 ⟨x, hx, rfl⟩)
              rcases run_next_at (P := P) w ty L.b Lm.b clock' clock' seen' es' clock' hb hb2 hold (Nat.le_refl _) with ⟨h0, hr⟩ | ⟨e, he, w1, hw1, hr⟩
              · refine ⟨_, _, hr, _, _, m, hK0 ?_, .refl m, rfl, h, .tuple rfl fun j hj => ?_⟩
                · intro b hbm
                  rw [← hbn] at hbm
                  obtain ⟨e, he, rfl⟩ := List.mem_map.1 hbm
                  by_cases hin : e.born ∈ seen
                  · exact hin
                  · have := leftOf_mem.2 ⟨he, by rw [hs]; exact hin⟩
                    have hz : (leftOf es' seen').toList = [] := by
                      apply List.eq_nil_of_length_eq_zero; simpa using h0
                    rw [hz] at this; cases this
                · have : j = 0 := by simpa using hj
                  subst this
                  exact .lit _ rfl
              · obtain ⟨he1, he2⟩ := leftOf_mem.1 he
                obtain ⟨i, hi, hie⟩ := List.mem_iff_getElem.1 he1
                have hi' : i < es.length := by rw [hl]; simpa using hi
                obtain ⟨e2, q1, q2, q3⟩ := hk i hi'
                have hee : e2 = e := by
                  rw [← hie]
                  have : es'[i]? = some es'.toList[i] := by simp [show i < es'.size by simpa using hi]
                  rw [this] at q1; simpa using q1.symm
                subst hee
                have hbi : births[i]? = some e2.born := by
                  rw [← hbn]; simp only [List.getElem?_map]
                  rw [List.getElem?_eq_getElem hi, hie]; rfl
                obtain ⟨q5, q6⟩ := hK1 i e2.born es[i] hbi (by simp [hi']) (by rw [← hs]; exact he2)
                have hrel1 : Rel m S w1 := by
                  rcases hw1 with rfl | rfl
                  · exact h
                  · exact h.drew
                have hb1 : w1.heap[L.b]? = some (.mapIter (some Lm.b) clock' seen' clock') := by
                  rcases hw1 with rfl | rfl <;> exact hb
                have hlt := lt_of_heap hb1
                have hrel2 : Rel m (S.set it (.iter mt (seen ++ [e2.born]) clock')) (Go.ChangeMaps.setBlock w1 L.b (.mapIter (some Lm.b) clock' (seen'.push e2.born) clock')) := by
                  refine hrel1.write hL (by rw [hSi]; simp) (.iter (seen' := seen'.push e2.born) hm (by rw [Array.toList_push, hs])) ?_ (fun b hb => ?_) rfl rfl rfl (by simp [Go.ChangeMaps.setBlock])
                  · simp [Go.ChangeMaps.setBlock, hlt]
                  · simp [Go.ChangeMaps.setBlock, Ne.symm hb]
                refine ⟨_, _, hr, _, _, m, q6, .refl m, rfl, hrel2, .tuple rfl fun j hj => ?_⟩
                match j, hj with
                | 0, _ => exact .lit _ rfl
                | 1, _ =>
                  show RelV m (AV.ofValue es[i].1) e2.key
                  rw [q2]; exact relV_ofValue m q5
                | 2, _ => exact q3
      · exact hK.elim
    · exact hK.elim
  · exact hK.elim
theorem entryW_ok (h : Rel m S w) {x : AV} {v : Value} (hv : RelV m x v) (hK : entryW x S K) : ∃ u w', (Instr.entry v).run P w = .ok u w' ∧ effR m K u w' := by
  unfold entryW at hK
  split at hK
  · rename_i it
    split at hK
    · rename_i mt seen clock hSi
      split at hK
      · rename_i es births clock' hSm
        obtain ⟨rfl, i, b, e, seen0, hseen, hbi, hei, hone, hk0⟩ := hK
        cases hv with
        | itr hL =>
          rename_i L
          obtain ⟨g1, g2, ob, hb, ho⟩ := h.owned it _ L hSi hL
          cases ho with
          | iter hm hs =>
            rename_i Lm seen'
            obtain ⟨k1, k2, ob2, hb2, ho2⟩ := h.owned mt _ Lm hSm hm
            cases ho2 with
            | mapB hl hbn hc hd hk =>
              rename_i es'
              obtain ⟨hi, rfl⟩ := List.getElem?_eq_some_iff.1 hei
              obtain ⟨e2, q1, q2, q3⟩ := hk i hi
              have hb2' : e2.born = b := by
                rw [← hbn, List.getElem?_map] at hbi
                have : es'.toList[i]? = some e2 := by simpa using q1
                rw [this] at hbi
                simpa using hbi
              have hsp : seen' = seen0.toArray.push e2.born := by
                apply Array.ext'
                rw [hs, hseen, hb2']; simp
              have hem : e2 ∈ es'.toList := List.mem_of_getElem? (by simpa using q1)
              have hr := run_entry_at (P := P) w L.b Lm.b clock' seen0.toArray es' clock' e2 (by rw [← hsp]; exact hb) hb2 hem (by rw [hbn]; exact hd)
              refine ⟨_, _, hr, _, _, m, hk0, .refl m, rfl, h, .tuple rfl fun j hj => ?_⟩
              match j, hj with
              | 0, _ =>
                show RelV m (AV.ofValue es[i].1) e2.key
                rw [q2]; exact relV_ofValue m hone
              | 1, _ => exact q3
      · exact hK.elim
    · exact hK.elim
  · exact hK.elim
end
def apZI (P : Program) (t tx : TypeId) : Option (TypeId × Nat × Nat × List AV) :=
  match P.underlying t, P.underlying tx with
  | some (.slice e), some (.int _) => match P.info? e with
    | some i => match i.zero with
      | some z => if z.cells.size = i.size ∧ z.cells.all Value.oneCell' = true ∧ 0 < i.size ∧ constOk z ∧ okC (AV.ofValue z) = true then some (e, i.size, i.bytes, cellsOf (AV.ofValue z)) else none
      | none => none
    | none => none
  | _, _ => none
def apZ (i : Option (TypeId × Nat × Nat × List AV)) (base x : AV) (S : Store) (K : AV → Store → Prop) : Prop :=
  match i, base, x with
  | some (e, sz, bytes, zc), .lit (.slice none 0 0), .lit (.int _ n) => 0 < n ∧ n ≤ 140737488355328 ∧ n * bytes ≤ 140737488355328 ∧ ∀ t, S t = none → K (.sref t 0 n.toNat) (S.set t (.row e sz (List.replicate n.toNat zc)))
  | some (e, sz, bytes, zc), .sref t off len, .lit (.int _ n) => match S t with
    | some (.rowF e' sz' es) => e' = e ∧ sz' = sz ∧ off = 0 ∧ 0 < n ∧ (es.length : Int) < len + n ∧ len ≤ es.length ∧ n ≤ 140737488355328 ∧ (len + n : Int) ≤ 9223372036854775807 ∧ (len + n) * bytes ≤ 140737488355328 ∧ ∀ t', S t' = none → K (.sref t' 0 (len + n.toNat)) (S.set t' (.row e sz (es.take len ++ List.replicate n.toNat zc)))
    | _ => False
  | _, _, _ => False
theorem flat_zero {P : Program} {m : Mu} {z : Value} {sz : Nat} (rz : RelV m (AV.ofValue z) z) (hok : okC (AV.ofValue z) = true) (hzs : z.cells.size = sz) (h0 : 0 < sz) (hz1 : ∀ u ∈ z.cells.toList, u.oneCell' = true) (n : Nat) :
    Flat m sz (List.replicate n (cellsOf (AV.ofValue z))) (Builtin.zeroCells z.cells n).toList := by
  obtain ⟨c1, c2⟩ := cells_ok rz hok
  have hlz : (cellsOf (AV.ofValue z)).length = sz := by rw [← c1, hzs]
  refine ⟨by simp [size_zeroCells, hzs], fun c hc => by rw [List.eq_of_mem_replicate hc, hlz], zeroCells_one hz1 (by omega) n, fun k hk j hj => ?_⟩
  simp only [List.length_replicate] at hk
  simp only [List.getElem_replicate] at hj ⊢
  have hj' : j < sz := by omega
  have hlt : k * sz + j < (Builtin.zeroCells z.cells n).size := by rw [size_zeroCells, hzs]; exact mul_lt_of hk hj' (Nat.le_refl _)
  have e : (Builtin.zeroCells z.cells n).toList.getD (k * sz + j) undef = z.cells.getD j undef := by
    have hjz : j < z.cells.size := by omega
    have hmod : (k * sz + j) % sz = j := by rw [Nat.mul_comm, Nat.mul_add_mod, Nat.mod_eq_of_lt hj']
    rw [List.getD_eq_getElem?_getD]
    simp only [Array.getElem?_toList]
    rw [Array.getElem?_eq_getElem hlt]
    simp only [Builtin.zeroCells, Array.getElem_map, Array.getElem_range, hzs, hmod]
    simp [hjz, Array.getD]
  rw [e]
  exact (c2 j hj).1
theorem apZ_ok {P : Program} {m : Mu} {S : Store} {w : World} (h : Rel m S w) {t tx ty : TypeId} {base x : AV} {v u : Value} (hv : RelV m base v) (hx : RelV m x u) {K : AV → Store → Prop} (hK : apZ (apZI P t tx) base x S K) : ∃ y w', (Builtin.append_ #[t, tx] ty #[v, u]).run P w = .ok y w' ∧ effR m K y w' := by
  unfold apZ at hK
  split at hK
  · rename_i e sz bytes zc k n hap
    obtain ⟨hn0, hn1, hnb, hK⟩ := hK
    unfold apZI at hap
    split at hap
    · rename_i e' ik hu hux
      split at hap
      · rename_i i hi
        split at hap
        · rename_i z hz
          split at hap
          · rename_i hc
            obtain ⟨c1, c2, c3, c4, c5⟩ := hc
            simp only [Option.some.injEq, Prod.mk.injEq] at hap
            obtain ⟨rfl, rfl, rfl, rfl⟩ := hap
            have hz1 : ∀ u ∈ z.cells.toList, u.oneCell' = true := fun u hu => by
              rw [Array.all_eq_true] at c2
              obtain ⟨j, hj, rfl⟩ := List.mem_iff_getElem.1 hu
              simpa using c2 j (by simpa using hj)
            have := hv.lit_inv; subst this
            have := hx.lit_inv; subst this
            obtain ⟨N, rfl⟩ : ∃ N : Nat, n = N := ⟨n.toNat, by omega⟩
            simp only [Int.toNat_natCast] at hK
            obtain ⟨t', f1, f2⟩ := h.fresh
            have hnb' : N * i.bytes ≤ 140737488355328 := by
              have : ((N * i.bytes : Nat) : Int) ≤ 140737488355328 := by rw [Int.natCast_mul]; exact hnb
              omega
            have hcap := growslice_fits (need := 0 + N) (old := 0) (bytes := i.bytes) (by omega) (by rw [Nat.zero_add]; exact hnb')
            simp only [Nat.zero_add] at hcap
            have hge := grownCap_ge w N 0 e'
            have hcm := grownCap_le_maxLen w N 0 e' (by simp only [maxLen]; omega)
            have fa := flat_zero (P := P) (relV_ofValue m c4) c5 c1 c3 hz1 N
            have hr : (Builtin.append_ #[t, tx] ty #[.slice none 0 0, .int k N]).run P w =
                .ok (.slice (some ⟨w.heap.size, 0, none⟩) N (grownCap w N 0 e'))
                  (w.drew.alloc (.cells ((Builtin.zeroCells z.cells N).toList.toArray ++ Builtin.zeroCells z.cells (grownCap w N 0 e' - N)) e')) := by
              have hn1' : ¬ ((140737488355328 : Int) < N) := by omega
              have hw : IntKind.i64.wrap (N : Int) = N := by simp [IntKind.wrap, IntKind.bits, IntKind.signed]; omega
              have hneg : ¬ ((N : Int) < 0) := by omega
              have h48 : ¬ (281474976710656 < (N : Int) * i.bytes) := by omega
              have hN0 : ¬ N = 0 := by omega
              have hs0 : ¬ i.size = 0 := by omega
              have h63 : ¬ (9223372036854775807 < (N : Int)) := by omega
              have h48' : ¬ (281474976710656 < Builtin.nextslicecap N 0 * i.bytes) := by omega
              simp [Builtin.append_, run_underlying hu, run_underlying hux, sizeOf, typeInfo, zeroValue, hi, hz, Question.forced, newRow, grownCap, asInt, asIntOf, hw, hneg, h48, hN0, hs0, h63, h48', Builtin.firstCells]
              intro hz0
              rcases Nat.mul_eq_zero.1 hz0 with h' | h' <;> omega
            have hrow : RowOk m e' i.size (grownCap w N 0 e') (List.replicate N (cellsOf (AV.ofValue z))) ((Builtin.zeroCells z.cells N).toList.toArray ++ Builtin.zeroCells z.cells (grownCap w N 0 e' - N)) := by
              refine fa.rowOk ?_ (by simpa using hge) hcm ?_ ?_
              · simp only [Array.size_append, List.size_toArray, size_zeroCells, c1, Array.length_toList, ← Nat.add_mul]
                congr 1; omega
              · simp only [Array.toList_append, ← fa.size]; exact List.take_left
              · intro u hu
                simp only [Array.toList_append] at hu
                rcases List.mem_append.1 hu with h' | h'
                · exact fa.one u h'
                · exact zeroCells_one hz1 (by omega) _ u h'
            have hnew := h.drew.new f1 (L := ⟨w.heap.size, i.size, grownCap w N 0 e'⟩) rfl (ob := .cells ((Builtin.zeroCells z.cells N).toList.toArray ++ Builtin.zeroCells z.cells (grownCap w N 0 e' - N)) e') (.row rfl hrow)
            refine ⟨_, _, hr, _, _, _, hK t' f2, Mu.le_name f1, rfl, hnew, ?_⟩
            have := RelV.sref (m := m.name t' ⟨w.heap.size, i.size, grownCap w N 0 e'⟩) (t := t') (off := 0) (len := N) (L := ⟨w.heap.size, i.size, grownCap w N 0 e'⟩) (by simp [Mu.name]) (by simpa using hge)
            simpa using this
          · cases hap
        · cases hap
      · cases hap
    · cases hap
  · rename_i e sz bytes zc t' off len k n hap
    split at hK
    · rename_i e1 sz1 es hS
      obtain ⟨rfl, rfl, rfl, hn0, hbig, hlen, hn1, hn63, hnb, hK⟩ := hK
      unfold apZI at hap
      split at hap
      · rename_i e' ik hu hux
        split at hap
        · rename_i i hi
          split at hap
          · rename_i z hz
            split at hap
            · rename_i hc
              obtain ⟨c1, c2, c3, c4, c5⟩ := hc
              simp only [Option.some.injEq, Prod.mk.injEq] at hap
              obtain ⟨rfl, rfl, rfl, rfl⟩ := hap
              have hz1 : ∀ u ∈ z.cells.toList, u.oneCell' = true := fun u hu => by
                rw [Array.all_eq_true] at c2
                obtain ⟨j, hj, rfl⟩ := List.mem_iff_getElem.1 hu
                simpa using c2 j (by simpa using hj)
              have := hx.lit_inv; subst this
              obtain ⟨N, rfl⟩ : ∃ N : Nat, n = N := ⟨n.toNat, by omega⟩
              simp only [Int.toNat_natCast] at hK
              cases hv with
              | sref hL hcap0 =>
                rename_i L
                obtain ⟨_, _, ob, hb, ho⟩ := h.owned t' _ L hS hL
                cases ho with
                | rowF hsz hfull hrow =>
                  rename_i cur
                  obtain ⟨u', f1, f2⟩ := h.fresh
                  have hnb' : (len + N) * i.bytes ≤ 140737488355328 := by
                    have : (((len + N) * i.bytes : Nat) : Int) ≤ 140737488355328 := by rw [Int.natCast_mul, Int.natCast_add]; exact hnb
                    omega
                  have hold : (Builtin.firstCells i.size len (.slice (some ⟨L.b, 0, none⟩) len L.cap)).run P w.drew = .ok (cur.toList.take (len * i.size)).toArray w.drew := by
                    refine run_firstCells_some w.drew i.size len ⟨L.b, 0, none⟩ len L.cap _ ?_ (fun j v hj => ?_)
                    · rw [List.length_take, Array.length_toList, hrow.size]; exact Nat.min_eq_left (Nat.mul_le_mul_right _ (by omega))
                    · rw [Addr.add_lit, Nat.zero_add]
                      have hb' : w.drew.heap[L.b]? = some (.cells cur e' (0, 0)) := hb
                      rw [cell_of_block hb']
                      rw [List.getElem?_take] at hj
                      split at hj
                      · simpa using hj
                      · cases hj
                  have hcap := growslice_fits (need := len + N) (old := L.cap) (bytes := i.bytes) (by omega) hnb'
                  have hge := grownCap_ge w (len + N) L.cap e'
                  have hcm := grownCap_le_maxLen w (len + N) L.cap e' (by simp only [maxLen]; omega)
                  have fa := flat_zero (P := P) (relV_ofValue m c4) c5 c1 c3 hz1 N
                  have ft := hrow.flat.take len
                  have et : (cur.toList.take (es.length * i.size)).take (len * i.size) = cur.toList.take (len * i.size) := by
                    rw [List.take_take, Nat.min_eq_left (Nat.mul_le_mul_right _ hlen)]
                  rw [et] at ft
                  have fl := ft.append fa
                  have hlen2 : (es.take len ++ List.replicate N (cellsOf (AV.ofValue z))).length = len + N := by rw [List.length_append, List.length_take, Nat.min_eq_left hlen, List.length_replicate]
                  have hr : (Builtin.append_ #[t, tx] ty #[.slice (some ⟨L.b, 0, none⟩) len L.cap, .int k N]).run P w =
                      .ok (.slice (some ⟨w.heap.size, 0, none⟩) (len + N) (grownCap w (len + N) L.cap e'))
                        (w.drew.alloc (.cells ((cur.toList.take (len * i.size) ++ (Builtin.zeroCells z.cells N).toList).toArray ++ Builtin.zeroCells z.cells (grownCap w (len + N) L.cap e' - (len + N))) e')) := by
                    have hw : IntKind.i64.wrap (N : Int) = N := by simp [IntKind.wrap, IntKind.bits, IntKind.signed]; omega
                    have hneg : ¬ ((N : Int) < 0) := by omega
                    have hle : N * i.bytes ≤ (len + N) * i.bytes := Nat.mul_le_mul_right _ (by omega)
                    have h48 : ¬ (281474976710656 < (N : Int) * i.bytes) := by
                      have : ((N * i.bytes : Nat) : Int) = (N : Int) * i.bytes := Int.natCast_mul _ _
                      omega
                    have hN0 : ¬ N = 0 := by omega
                    have hs0 : ¬ i.size = 0 := by omega
                    have hroom : ¬ (len + N ≤ L.cap) := by omega
                    have h63 : ¬ (9223372036854775807 < ((len : Int) + (N : Int))) := by omega
                    have h48' : ¬ (281474976710656 < Builtin.nextslicecap (len + N) L.cap * i.bytes) := by omega
                    simp [Builtin.append_, run_underlying hu, run_underlying hux, sizeOf, typeInfo, zeroValue, hi, hz, Question.forced, newRow, grownCap, asInt, asIntOf, hw, hneg, h48, hN0, hs0, h63, h48', hroom, hold]
                    have hNs : ¬ N * i.size = 0 := fun h0 => by rcases Nat.mul_eq_zero.1 h0 with h' | h' <;> omega
                    rw [if_neg hNs]
                    simp
                    congr 2
                    apply Array.ext'
                    simp [List.append_assoc]
                  have hrow' : RowOk m e' i.size (grownCap w (len + N) L.cap e') (es.take len ++ List.replicate N (cellsOf (AV.ofValue z))) ((cur.toList.take (len * i.size) ++ (Builtin.zeroCells z.cells N).toList).toArray ++ Builtin.zeroCells z.cells (grownCap w (len + N) L.cap e' - (len + N))) := by
                    refine fl.rowOk ?_ (by rw [hlen2]; exact hge) hcm ?_ ?_
                    · have := fl.size
                      rw [hlen2] at this
                      simp only [Array.size_append, List.size_toArray, size_zeroCells, c1, this, ← Nat.add_mul]
                      congr 1; omega
                    · simp only [Array.toList_append, ← fl.size]; exact List.take_left
                    · intro u hu
                      simp only [Array.toList_append] at hu
                      rcases List.mem_append.1 hu with h' | h'
                      · exact fl.one u h'
                      · exact zeroCells_one hz1 (by omega) _ u h'
                  have hnew := h.drew.new f1 (L := ⟨w.heap.size, i.size, grownCap w (len + N) L.cap e'⟩) rfl (.row rfl hrow')
                  refine ⟨_, _, by simpa using hr, _, _, _, hK u' f2, Mu.le_name f1, rfl, hnew, ?_⟩
                  have := RelV.sref (m := m.name u' ⟨w.heap.size, i.size, grownCap w (len + N) L.cap e'⟩) (t := u') (off := 0) (len := len + N) (L := ⟨w.heap.size, i.size, grownCap w (len + N) L.cap e'⟩) (by simp [Mu.name]) (by simp; exact hge)
                  simpa using this
            · cases hap
          · cases hap
        · cases hap
      · cases hap
    · exact hK.elim
  · exact hK.elim
end Go.Du
namespace Go.Du
open Go
section
variable {P : Program} {m : Mu} {w : World} {S : Store} {K : AV → Store → Prop}
theorem RowOk.splice {ty sz cap : Nat} {elems l : List (List AV)} {cur : Array Value} {news : List Value} (hrow : RowOk m ty sz cap elems cur) (hf : Flat m sz l news) (a : Nat) (hfitl : a + l.length ≤ elems.length) :
    RowOk m ty sz cap (elems.take a ++ l ++ elems.drop (a + l.length)) (cur.toList.take (a * sz) ++ news ++ cur.toList.drop (a * sz + news.length)).toArray := by
  have fl : Flat m sz (elems.take a ++ l ++ elems.drop (a + l.length)) ((cur.toList.take (elems.length * sz)).take (a * sz) ++ news ++ (cur.toList.take (elems.length * sz)).drop ((a + l.length) * sz)) :=
    ((hrow.flat.take _).append hf).append (hrow.flat.drop _)
  have hll : (elems.take a ++ l ++ elems.drop (a + l.length)).length = elems.length := by simp; omega
  have hmul : (a + l.length) * sz ≤ elems.length * sz := Nat.mul_le_mul_right _ hfitl
  have hmul2 : a * sz ≤ (a + l.length) * sz := Nat.mul_le_mul_right _ (by omega)
  have hcs : elems.length * sz ≤ cur.size := by rw [hrow.size]; exact Nat.mul_le_mul_right _ hrow.le
  have hnl : a * sz + news.length = (a + l.length) * sz := by rw [hf.size, ← Nat.add_mul]
  refine fl.rowOk ?_ (by rw [hll]; exact hrow.le) hrow.capLe ?_ ?_
  · simp only [List.size_toArray, List.length_append, List.length_take, List.length_drop, Array.length_toList, ← hrow.size]; omega
  · rw [hll, hnl]
    apply List.ext_getElem?
    intro k
    by_cases hk : k < elems.length * sz
    · simp only [List.getElem?_take, hk, if_true, List.getElem?_append, List.length_append, List.length_take, List.length_drop, Array.length_toList, List.getElem?_drop]
      have m1 : min (a * sz) cur.size = a * sz := by omega
      have m2 : min (a * sz) (min (elems.length * sz) cur.size) = a * sz := by omega
      rw [m1, m2]
      by_cases k1 : k < a * sz
      · simp [k1, show k < a * sz + news.length by omega]
      · by_cases k2 : k < a * sz + news.length
        · simp [k1, k2]
        · simp only [k1, k2, if_false]
          have : (a + l.length) * sz + (k - (a * sz + news.length)) = k := by omega
          rw [this, if_pos hk]
    · rw [List.getElem?_take, if_neg hk, List.getElem?_eq_none]
      simp only [List.length_append, List.length_take, List.length_drop, Array.length_toList]
      omega
  · intro y hy
    simp only [List.mem_append] at hy
    rcases hy with (hy | hy) | hy
    · exact hrow.tail_one y (List.mem_of_mem_take hy)
    · exact hf.one y hy
    · exact hrow.tail_one y (List.mem_of_mem_drop hy)
theorem spliceLen {elems l : List (List AV)} {a : Nat} (h : a + l.length ≤ elems.length) : (elems.take a ++ l ++ elems.drop (a + l.length)).length = elems.length := by simp; omega
theorem splice_ok (h : Rel m S w) {t : Nat} {L : Loc} (hL : m.loc t = some L) {ty sz : Nat} {elems l : List (List AV)} (hS : S t = some (.row ty sz elems)) {news : List Value} (hf : Flat m sz l news) (a : Nat) (hfit : a + l.length ≤ elems.length) :
    ∃ w', (storeCells ⟨L.b, a * L.sz, none⟩ news).run P w = .ok () w' ∧ Rel m (S.set t (.row ty sz (elems.take a ++ l ++ elems.drop (a + l.length)))) w' := by
  obtain ⟨cur, hb, hsz, hrow⟩ := h.rowCells hL hS
  have hnl : a * sz + news.length ≤ cur.size := by
    rw [hf.size, hrow.size, ← Nat.add_mul]; exact Nat.mul_le_mul_right _ (by have := hrow.le; omega)
  have hst := run_storeCells_at P L.b (a * L.sz) ty news 0 cur w hb (by rw [hsz]; simpa using hnl) hf.one
  simp only [Nat.add_zero] at hst
  refine ⟨_, hst, ?_⟩
  rw [hsz]
  exact h.write (w' := w.setRow L.b (cur.toList.take (a * sz) ++ news ++ cur.toList.drop (a * sz + news.length)).toArray) hL (by rw [hS]; simp) (.row hsz (hrow.splice hf a hfit)) (setRow_heap w L.b cur _ ty _ hb) (fun b hbn => setRow_other w L.b b _ hbn) rfl rfl rfl (by simp)
theorem Rel.rowCellsF (h : Rel m S w) {t : Nat} {L : Loc} (hL : m.loc t = some L) {ty sz : Nat} {elems : List (List AV)} (hS : S t = some (.rowF ty sz elems)) :
    ∃ cur, w.heap[L.b]? = some (.cells cur ty (0, 0)) ∧ L.sz = sz ∧ L.cap = elems.length ∧ RowOk m ty sz L.cap elems cur := by
  obtain ⟨_, _, ob, hb, ho⟩ := h.owned t _ L hS hL
  cases ho with
  | rowF hs hc hr => exact ⟨_, hb, hs, hc, hr⟩
theorem spliceF_ok (h : Rel m S w) {t : Nat} {L : Loc} (hL : m.loc t = some L) {ty sz : Nat} {elems l : List (List AV)} (hS : S t = some (.rowF ty sz elems)) {news : List Value} (hf : Flat m sz l news) (a : Nat) (hfit : a + l.length ≤ elems.length) :
    ∃ w', (storeCells ⟨L.b, a * L.sz, none⟩ news).run P w = .ok () w' ∧ Rel m (S.set t (.rowF ty sz (elems.take a ++ l ++ elems.drop (a + l.length)))) w' := by
  obtain ⟨cur, hb, hsz, hc, hrow⟩ := h.rowCellsF hL hS
  have hnl : a * sz + news.length ≤ cur.size := by
    rw [hf.size, hrow.size, ← Nat.add_mul]; exact Nat.mul_le_mul_right _ (by have := hrow.le; omega)
  have hst := run_storeCells_at P L.b (a * L.sz) ty news 0 cur w hb (by rw [hsz]; simpa using hnl) hf.one
  simp only [Nat.add_zero] at hst
  refine ⟨_, hst, ?_⟩
  rw [hsz]
  exact h.write (w' := w.setRow L.b (cur.toList.take (a * sz) ++ news ++ cur.toList.drop (a * sz + news.length)).toArray) hL (by rw [hS]; simp) (.rowF hsz (by rw [spliceLen hfit]; exact hc) (hrow.splice hf a hfit)) (setRow_heap w L.b cur _ ty _ hb) (fun b hbn => setRow_other w L.b b _ hbn) rfl rfl rfl (by simp)
end
def zInfo (P : Program) (t : TypeId) : Option (Nat × List AV) :=
  match P.underlying t with
  | some (.slice e) => match P.info? e with
    | some i => match i.zero with
      | some z => if z.cells.size = i.size ∧ z.cells.all Value.oneCell' = true ∧ 0 < i.size ∧ constOk z ∧ okC (AV.ofValue z) = true then some (i.size, cellsOf (AV.ofValue z)) else none
      | none => none
    | none => none
  | _ => none
def clearW (z : Option (Nat × List AV)) (x : AV) (S : Store) (K : AV → Store → Prop) : Prop :=
  match z, x with
  | some (sz, zc), .sref t off len => match S t with
    | some (.row e sz' es) => sz' = sz ∧ off + len ≤ es.length ∧ K (.tuple []) (S.set t (.row e sz' (es.take off ++ List.replicate len zc ++ es.drop (off + (List.replicate len zc).length))))
    | _ => False
  | some _, .svals [] => K (.tuple []) S
  | some _, .s0 => K (.tuple []) S
  | some _, .lit (.slice none 0 0) => K (.tuple []) S
  | _, _ => False
def copyW (z : Option (Nat × List AV)) (dst src : AV) (S : Store) (K : AV → Store → Prop) : Prop :=
  match z, rdS src S with
  | some (sz, _), some l => (∀ c ∈ l, c.length = sz) ∧ match dst with
    | .sref t off len => match S t with
      | some (.row e sz' es) => sz' = sz ∧ off + len ≤ es.length ∧ K (.lit (.int .i64 (min l.length len : Nat))) (S.set t (.row e sz' (es.take off ++ l.take len ++ es.drop (off + (l.take len).length))))
      | some (.rowF e sz' es) => sz' = sz ∧ off + len ≤ es.length ∧ K (.lit (.int .i64 (min l.length len : Nat))) (S.set t (.rowF e sz' (es.take off ++ l.take len ++ es.drop (off + (l.take len).length))))
      | _ => False
    | .svals [] => K (.lit (.int .i64 0)) S
    | .s0 => K (.lit (.int .i64 0)) S
    | .lit (.slice none 0 0) => K (.lit (.int .i64 0)) S
    | _ => False
  | _, _ => False
def capF (x : AV) (S : Store) (K : AV → Store → Prop) : Prop :=
  match x with
  | .sref t 0 n => match S t with
    | some (.row e sz es) => es.length = n ∧ 0 < sz ∧ ∀ c : Nat, n ≤ c → K (.lit (.int .i64 c)) (S.set t (.rowF e sz (es ++ List.replicate (c - n) (List.replicate sz .poison))))
    | _ => False
  | _ => False
section
variable {P : Program} {m : Mu} {w : World} {S : Store} {K : AV → Store → Prop}
theorem run_setRow_same {t : Nat} {o : AObj} (hS : S t = some o) : S.set t o = S := by
  funext x
  by_cases e : x = t
  · subst e; rw [Store.set_same]; exact hS.symm
  · rw [Store.set_ne _ _ _ e]
theorem clearW_ok (h : Rel m S w) {x : AV} {v : Value} (hv : RelV m x v) {t ty : TypeId} {ats : Array TypeId} (hat : ats[0]? = some t) (hK : clearW (zInfo P t) x S K) : ∃ u w', (Builtin.clear_ ats ty #[v]).run P w = .ok u w' ∧ effR m K u w' := by
  unfold clearW at hK
  split at hK
  · rename_i sz zc t' off len hz
    unfold zInfo at hz
    split at hz
    · rename_i e hu
      split at hz
      · rename_i i hi
        split at hz
        · rename_i z hzz
          split at hz
          · rename_i hc
            obtain ⟨c1, c2, c3, c4, c5⟩ := hc
            simp only [Option.some.injEq, Prod.mk.injEq] at hz
            obtain ⟨rfl, rfl⟩ := hz
            split at hK
            · rename_i e' sz' es hS
              obtain ⟨rfl, hfit, hK⟩ := hK
              cases hv with
              | sref hL hcap =>
                rename_i L
                have hz1 : ∀ u ∈ z.cells.toList, u.oneCell' = true := fun u hu => by
                  rw [Array.all_eq_true] at c2
                  obtain ⟨j, hj, rfl⟩ := List.mem_iff_getElem.1 hu
                  simpa using c2 j (by simpa using hj)
                have fa := flat_zero (P := P) (relV_ofValue m c4) c5 c1 c3 hz1 len
                obtain ⟨w', hr, hrel⟩ := splice_ok (P := P) h hL hS fa off (by simpa using hfit)
                by_cases h0 : len = 0
                · subst h0
                  refine ⟨.tuple #[], w, by simp [Builtin.clear_, hat, run_underlying hu], _, _, m, hK, .refl m, rfl, ?_, .tuple rfl fun j hj => absurd hj (Nat.not_lt_zero _)⟩
                  have e0 : es.take off ++ List.replicate 0 (cellsOf (AV.ofValue z)) ++ es.drop (off + (List.replicate 0 (cellsOf (AV.ofValue z))).length) = es := by simp
                  rw [e0, run_setRow_same hS]; exact h
                · refine ⟨.tuple #[], w', ?_, _, _, m, hK, .refl m, rfl, hrel, .tuple rfl fun j hj => absurd hj (Nat.not_lt_zero _)⟩
                  simp [Builtin.clear_, hat, run_underlying hu, zeroValue, typeInfo, hi, hzz, hr, h0]
            · exact hK.elim
          · cases hz
        · cases hz
      · cases hz
    · cases hz
  all_goals first
    | exact hK.elim
    | (rename_i hz
       have hu : ∃ e, P.underlying t = some (.slice e) := by
         unfold zInfo at hz
         split at hz
         · rename_i e hu; exact ⟨e, hu⟩
         · cases hz
       obtain ⟨e, hu⟩ := hu
       have hv' : ∃ a c, v = .slice a 0 c := by
         first
         | (have := hv.lit_inv; exact ⟨none, 0, this⟩)
         | (cases hv <;> exact ⟨_, _, rfl⟩)
       obtain ⟨a, c, rfl⟩ := hv'
       refine ⟨.tuple #[], w, ?_, _, _, m, hK, .refl m, rfl, h, .tuple rfl fun j hj => absurd hj (Nat.not_lt_zero _)⟩
       cases a <;> simp [Builtin.clear_, hat, run_underlying hu])
theorem zInfo_spec {t : TypeId} {sz : Nat} {zc : List AV} (h : zInfo P t = some (sz, zc)) : ∃ e i, P.underlying t = some (.slice e) ∧ P.info? e = some i ∧ i.size = sz ∧ 0 < sz := by
  unfold zInfo at h
  split at h
  · rename_i e hu
    split at h
    · rename_i i hi
      split at h
      · split at h
        · rename_i hc
          simp only [Option.some.injEq, Prod.mk.injEq] at h
          exact ⟨e, i, hu, hi, h.1, by rw [← h.1]; exact hc.2.2.1⟩
        · cases h
      · cases h
    · cases h
  · cases h
theorem first_ok (h : Rel m S w) {s : AV} {u : Value} (hs : RelV m s u) {l : List (List AV)} (hl : rdS s S = some l) {sz : Nat} (h0 : 0 < sz) (hz : ∀ c ∈ l, c.length = sz) (k : Nat) :
    ∃ a c vs, u = .slice a l.length c ∧ Flat m sz (l.take k) vs ∧ (Builtin.firstCells sz (min l.length k) u).run P w = .ok vs.toArray w := by
  obtain ⟨a, c, sz', rfl, hat⟩ := rdS_ok h hs hl
  by_cases hne : l = []
  · subst hne
    refine ⟨a, c, [], rfl, by simpa using Flat.nil m sz, ?_⟩
    cases a with
    | none => exact run_firstCells_none w sz _ _ _
    | some ad => exact run_firstCells_some w sz _ ad _ c [] (by simp) (fun j v hj => by simp at hj)
  · obtain ⟨ad, vs, rfl, hf, hc⟩ := flat_of_at hat hz h0 hne
    have hft := hf.take k
    refine ⟨_, c, _, rfl, hft, ?_⟩
    refine run_firstCells_some w sz _ ad _ c _ ?_ (fun j v hj => ?_)
    · rw [hft.size, List.length_take, Nat.min_comm]
    · rw [List.getElem?_take] at hj
      split at hj
      · exact hc j v hj
      · cases hj
theorem copyW_ok (h : Rel m S w) {d s : AV} {v u : Value} (hd : RelV m d v) (hs : RelV m s u) {t ty : TypeId} {ats : Array TypeId} (hat : ats[0]? = some t) (hK : copyW (zInfo P t) d s S K) :
    ∃ y w', (Builtin.copy_ ats ty #[v, u]).run P w = .ok y w' ∧ effR m K y w' := by
  unfold copyW at hK
  split at hK
  · rename_i sz zc l hzi hl
    obtain ⟨e, i, hu, hi, rfl, h0⟩ := zInfo_spec hzi
    obtain ⟨hz, hK⟩ := hK
    have key : ∀ (b off len cap : Nat) (L : Loc), v = .slice (some ⟨L.b, off * L.sz, none⟩) len cap → ∀ S', (∀ vs, Flat m i.size (l.take len) vs → ∃ w', (storeCells ⟨L.b, off * L.sz, none⟩ vs).run P w = .ok () w' ∧ Rel m S' w') →
        K (.lit (.int .i64 (min l.length len : Nat))) S' → ∃ y w', (Builtin.copy_ ats ty #[v, u]).run P w = .ok y w' ∧ effR m K y w' := by
      intro _ off len cap L hv S' hst hk
      subst hv
      obtain ⟨a, c, vs, rfl, hf, hr⟩ := first_ok (P := P) h hs hl h0 hz len
      obtain ⟨w', hr', hrel⟩ := hst vs hf
      refine ⟨.int .i64 (min l.length len : Nat), w', ?_, _, _, m, hk, .refl m, rfl, hrel, .lit _ rfl⟩
      have hr2 : (Builtin.firstCells i.size (Nat.min l.length len) (.slice a l.length c)).run P w = .ok vs.toArray w := hr
      simp [Builtin.copy_, hat, run_underlying hu, Builtin.lenOf, sizeOf, typeInfo, hi, hr2, hr', goInt]
    have none0 : ∀ a c, v = .slice a 0 c → K (.lit (.int .i64 0)) S → ∃ y w', (Builtin.copy_ ats ty #[v, u]).run P w = .ok y w' ∧ effR m K y w' := by
      intro ad cd hv hk
      subst hv
      obtain ⟨a, c, vs, rfl, hf, hr⟩ := first_ok (P := P) h hs hl h0 hz 0
      have hvs : vs = [] := List.eq_nil_of_length_eq_zero (by have := hf.size; simpa using this)
      subst hvs
      refine ⟨.int .i64 0, w, ?_, _, _, m, hk, .refl m, rfl, h, .lit _ rfl⟩
      have hr2 : (Builtin.firstCells i.size 0 (.slice a l.length c)).run P w = .ok #[] w := by
        have e0 : min l.length 0 = 0 := Nat.min_zero _
        rw [e0] at hr; exact hr
      cases ad <;> simp [Builtin.copy_, hat, run_underlying hu, Builtin.lenOf, sizeOf, typeInfo, hi, hr2, storeCells, goInt]
    have hlt : ∀ len, (l.take len).length ≤ len := fun len => by simp; omega
    split at hK
    · rename_i t' off len
      split at hK
      · rename_i e' sz' es hS
        obtain ⟨rfl, hfit, hK⟩ := hK
        cases hd with
        | sref hL hcap =>
          rename_i L
          refine key L.b off len _ L rfl _ (fun vs hf => ?_) hK
          exact splice_ok (P := P) h hL hS hf off (by have := hlt len; omega)
      · rename_i e' sz' es hS
        obtain ⟨rfl, hfit, hK⟩ := hK
        cases hd with
        | sref hL hcap =>
          rename_i L
          refine key L.b off len _ L rfl _ (fun vs hf => ?_) hK
          exact spliceF_ok (P := P) h hL hS hf off (by have := hlt len; omega)
      · exact hK.elim
    · cases hd with
      | sempty a c => exact none0 a c rfl hK
      | svals hz hl f hc h1 hr hcap => exact none0 _ _ rfl hK
    · cases hd with
      | s0 a => exact none0 a 0 rfl hK
    · have := hd.lit_inv
      exact none0 none 0 this hK
    · exact hK.elim
  · exact hK.elim
theorem capF_ok (h : Rel m S w) {x : AV} {v : Value} (hv : RelV m x v) {t ty e : TypeId} {ats : Array TypeId} (hat : ats[0]? = some t) (hu : P.underlying t = some (.slice e)) (hK : capF x S K) : ∃ u w', (Builtin.cap_ ats ty #[v]).run P w = .ok u w' ∧ effR m K u w' := by
  unfold capF at hK
  split at hK
  · rename_i t' n
    split at hK
    · rename_i e' sz es hS
      obtain ⟨hn, h0, hK⟩ := hK
      cases hv with
      | sref hL hcap =>
        rename_i L
        obtain ⟨cur, hb, hsz, hrow⟩ := h.rowCells hL hS
        have hle : n ≤ L.cap := by have := hrow.le; omega
        have hll : (es ++ List.replicate (L.cap - n) (List.replicate sz AV.poison)).length = L.cap := by simp; omega
        refine ⟨.int .i64 L.cap, w, by simp [Builtin.cap_, hat, run_underlying hu, goInt], _, _, m, hK L.cap hle, .refl m, rfl, ?_, .lit _ rfl⟩
        refine h.write hL (by rw [hS]; simp) (.rowF hsz hll.symm ⟨hrow.size, by omega, hrow.capLe, fun c hc => ?_, hrow.one, fun i hi j hj => ?_⟩) hb (fun _ _ => rfl) rfl rfl rfl rfl
        · rcases List.mem_append.1 hc with hc | hc
          · exact hrow.len c hc
          · rw [List.eq_of_mem_replicate hc]; simp
        · by_cases hie : i < es.length
          · have ee : (es ++ List.replicate (L.cap - n) (List.replicate sz AV.poison))[i] = es[i] := List.getElem_append_left hie
            simp only [ee] at hj ⊢
            exact hrow.rel i hie j hj
          · have ee : (es ++ List.replicate (L.cap - n) (List.replicate sz AV.poison))[i] = List.replicate sz AV.poison := by
              rw [List.getElem_append_right (by omega)]; simp
            simp only [ee] at hj ⊢
            simp only [List.getElem_replicate]
            exact .poison _
    · exact hK.elim
  · exact hK.elim
end
end Go.Du
namespace Go.Du
open Go
section
variable {P : Program} {m : Mu} {w : World} {S : Store}
theorem ckT_succ : ∀ (d : Nat) (t : TypeId) (ks : List CK), ckT P d t = some ks → ckT P (d + 1) t = some ks
  | 0, t, ks, h => by simp [ckT] at h
  | d + 1, t, ks, h => by
    have fsl : ∀ (l : List Field) (off : Nat) (ks : List CK), ckFs P (ckT P d) l off = some ks → ckFs P (ckT P (d + 1)) l off = some ks := by
      intro l
      induction l with
      | nil => intro off ks h; exact h
      | cons f l ihl =>
        intro off ks h
        simp only [ckFs] at h ⊢
        split at h
        · cases h
        · rename_i hno
          rw [if_neg hno]
          split at h
          · rename_i ks1 hk1
            rw [ckT_succ d _ _ hk1]
            dsimp only
            split at h
            · rename_i hs
              rw [if_pos hs]
              obtain ⟨ks2, h2, rfl⟩ := Option.map_eq_some_iff.1 h
              rw [ihl _ _ h2]; rfl
            · cases h
          · cases h
    rw [ckT] at h ⊢
    split at h
    · exact h
    · exact h
    · exact h
    · split at h
      · cases h
      · rename_i hst
        rw [if_neg hst]; exact fsl _ _ _ h
    · cases h
theorem ckT_le {d n : Nat} (h : d ≤ n) {t : TypeId} {ks : List CK} (hk : ckT P d t = some ks) : ckT P n t = some ks := by
  induction h with
  | refl => exact hk
  | step _ ih => exact ckT_succ _ _ _ ih
theorem run_checkKey_fs {em : Bool} {d n : Nat} (ih : ∀ t ks (xs : List Value), ckT P d t = some ks → xs.length = ks.length → xs.map ckOf = ks.map some → (Instr.checkKey em n t (wrapT P t xs)).run P w = .ok () w) (xs : Array Value) :
    ∀ (fs : List Field) (off : Nat) (ks : List CK), ckFs P (ckT P d) fs off = some ks → off + ks.length = xs.size → (xs.toList.drop off).map ckOf = ks.map some →
      (forIn fs PUnit.unit (fun f _ => do
        if f.name ≠ "_" then Instr.checkKey em n f.type (← part f.type xs f.offset)
        pure (ForInStep.yield PUnit.unit)) : Sem PUnit).run P w = .ok PUnit.unit w
  | [], off, ks, _, _, _ => by simp
  | f :: fs, off, ks, hk, hl, h1 => by
    simp only [ckFs] at hk
    split at hk
    · cases hk
    · rename_i hno
      have hname : f.name ≠ "_" := fun e => hno (.inl e)
      have hoff : f.offset = off := Classical.byContradiction fun e => hno (.inr e)
      split at hk
      · rename_i ks1 hks1
        split at hk
        · rename_i hsz
          obtain ⟨ks2, hks2, rfl⟩ := Option.map_eq_some_iff.1 hk
          obtain ⟨i, hi, hs⟩ := Option.map_eq_some_iff.1 hsz
          simp only [List.length_append] at hl
          have sx : xs.toList.drop off = (xs.toList.drop off).take ks1.length ++ xs.toList.drop (off + ks1.length) := by
            rw [← List.drop_drop]; exact (List.take_append_drop _ _).symm
          have lx : ((xs.toList.drop off).take ks1.length).length = ks1.length := by simp; omega
          rw [sx, List.map_append, List.map_append] at h1
          obtain ⟨a1, a2⟩ := List.append_inj h1 (by simp only [List.length_map]; exact lx)
          have hp := run_part_wrap (P := P) (w := w) hks1 hi hs xs off (by omega)
          have he := ih f.type ks1 _ hks1 lx a1
          have hr := run_checkKey_fs ih xs fs (off + ks1.length) ks2 hks2 (by omega) a2
          simp only [List.forIn_cons, Sem.run_bind, if_pos hname, hoff, hp, Result.andThen_ok, he, Sem.run_pure]
          exact hr
        · cases hk
      · cases hk
theorem run_checkKey_ck {em : Bool} : ∀ (d n : Nat) (t : TypeId) (ks : List CK) (xs : List Value), d ≤ n → ckT P d t = some ks → xs.length = ks.length → xs.map ckOf = ks.map some → (Instr.checkKey em n t (wrapT P t xs)).run P w = .ok () w
  | 0, _, _, _, _, _, h, _, _ => by simp [ckT] at h
  | d + 1, 0, _, _, _, hle, _, _, _ => absurd hle (by omega)
  | d + 1, n + 1, t, ks, xs, hle, h, hl, hx => by
    have h0 := h
    simp only [ckT] at h
    split at h
    case h_5 => cases h
    case h_4 fs hu =>
      split at h
      · cases h
      · simp only [wrapT, hu, Instr.checkKey, Sem.run_bind, run_underlying hu, Result.andThen_ok]
        have := run_checkKey_fs (P := P) (w := w) (em := em) (d := d) (n := n) (fun t ks xs a b c => run_checkKey_ck d n t ks xs (by omega) a b c) xs.toArray fs.toList 0 ks h (by simp [hl]) (by simpa using hx)
        rw [← Array.forIn_toList]
        simp at this ⊢
        rw [this]; rfl
    all_goals
      rename_i hu
      simp only [Option.some.injEq] at h
      subst h
      match xs, hl with
      | [x], _ =>
        simp only [List.map_cons, List.map_nil, List.cons.injEq, and_true] at hx
        simp only [wrapT, hu, List.headD_cons]
        cases x <;> simp only [ckOf, reduceCtorEq, Option.some.injEq] at hx
        simp [Instr.checkKey, run_underlying hu]
def mIdxR (ks : List CK) (k : List Value) : List (Value × AV) → Option (Option Nat)
  | [] => some none
  | (kv, _) :: es => match kv with
    | .agg cs => if cs.toList.map ckOf = ks.map some then (match sEq k cs.toList with
      | some true => some (some 0)
      | some false => (mIdxR ks k es).map fun r => r.map (· + 1)
      | none => none) else none
    | _ => none
theorem mIdxR_lt {ks : List CK} {k : List Value} : ∀ {es : List (Value × AV)} {i : Nat}, mIdxR ks k es = some (some i) → i < es.length ∧ ∃ cs v, es[i]? = some (.agg cs, v) ∧ sEq k cs.toList = some true
  | [], i, h => by simp [mIdxR] at h
  | (kv, v) :: es, i, h => by
    cases kv <;> simp only [mIdxR, reduceCtorEq] at h
    rename_i cs
    split at h
    · split at h
      · rename_i he
        simp only [Option.some.injEq] at h; subst h
        exact ⟨by simp, cs, v, by simp, he⟩
      · obtain ⟨r, hr, hi⟩ := Option.map_eq_some_iff.1 h
        obtain ⟨j, rfl, rfl⟩ := Option.map_eq_some_iff.1 hi
        obtain ⟨g1, cs', v', g2, g3⟩ := mIdxR_lt hr
        exact ⟨by simp; omega, cs', v', by simpa using g2, g3⟩
      · cases h
    · cases h
theorem findAskingR_ok {kt : TypeId} {fs : Array Field} (hu : P.underlying kt = some (.struct fs)) {ks : List CK} (hks : ckT P 20 kt = some ks) {k : List Value} (hk : k.map ckOf = ks.map some) :
    ∀ (es : List (Value × AV)) (es' : List MapEntry) (i : Nat) (r : Option Nat), es.length = es'.length → (∀ j (h : j < es.length) (h' : j < es'.length), es'[j].key = es[j].1) → mIdxR ks k es = some r →
      (Instr.findAsking kt (.agg k.toArray) es' i).run P w = .ok (match r with | some j => some (i + j, (es'[j]?.map (·.val)).getD undef) | none => none) w
  | [], [], i, r, _, _, h => by
    simp only [mIdxR, Option.some.injEq] at h; subst h
    simp [Instr.findAsking]
  | [], _ :: _, _, _, h, _, _ => by simp at h
  | _ :: _, [], _, _, h, _, _ => by simp at h
  | (kv, v) :: es, e :: es', i, r, hl, hkk, h => by
    have h0 := hkk 0 (by simp) (by simp)
    simp only [List.getElem_cons_zero] at h0
    cases kv <;> simp only [mIdxR, reduceCtorEq] at h
    rename_i cs
    split at h
    · rename_i hcs
      have hlen : ∀ {l : List Value}, l.map ckOf = ks.map some → l.length = ks.length := fun h => by have := congrArg List.length h; simpa using this
      have eq : ∀ b, sEq k cs.toList = some b → (Op.equal kt (.agg k.toArray) e.key).run P w = .ok b w := by
        intro b hb
        have := run_equalIn_plain (P := P) (w := w) 10000 kt ks k cs.toList b (ckT_le (by omega) hks) (hlen hk) (hlen hcs) hk hcs hb
        rw [h0]
        simp only [wrapT, hu] at this
        rw [equal_eq]
        simpa using this
      split at h
      · rename_i he
        simp only [Option.some.injEq] at h; subst h
        simp [Instr.findAsking, eq _ he]
      · rename_i he
        obtain ⟨r', hr, hi⟩ := Option.map_eq_some_iff.1 h
        have ih := findAskingR_ok hu hks hk es es' (i + 1) r' (by simpa using hl) (fun j h h' => by
          have := hkk (j + 1) (by simp; omega) (by simp; omega)
          simpa using this) hr
        simp only [Instr.findAsking, Sem.run_bind, eq _ he, Result.andThen_ok, Bool.false_eq_true, if_false, ih]
        subst hi
        cases r' with
        | none => rfl
        | some j => simp; omega
      · cases h
    · cases h
theorem map_findR (h : Rel m S w) {t : Nat} {L : Loc} (hL : m.loc t = some L) {es : List (Value × AV)} (hS : S t = some (.map es)) {kt : TypeId} {fs : Array Field} (hu : P.underlying kt = some (.struct fs)) {ks : List CK} (hks : ckT P 20 kt = some ks)
    {k : List Value} (hk : k.map ckOf = ks.map some) {r : Option Nat} (hr : mIdxR ks k es = some r) :
    ∃ es' clock, w.heap[L.b]? = some (.map es' clock) ∧ ObjOk m L (.map es) (.map es' clock) ∧
      (Instr.findKey kt (.agg k.toArray) es'.toList).run P w = .ok (match r with | some j => some (j, (es'[j]?.map (·.val)).getD undef) | none => none) w := by
  obtain ⟨es', clock, hb, ho⟩ := h.mapAt hL hS
  refine ⟨es', clock, hb, ho, ?_⟩
  cases ho with
  | map hl hbn hd hkk =>
    have := findAskingR_ok (P := P) (w := w) hu hks hk es es'.toList 0 r (by simpa using hl) (fun j h1 h2 => by
      obtain ⟨e, he, hkey, _⟩ := hkk j h1
      obtain ⟨hlt, rfl⟩ := Array.getElem?_eq_some_iff.1 he
      simpa using hkey) hr
    rw [run_findKey_eq (P := P) w (k := kt) (by simp [hu])]
    rw [this]
    cases r with
    | none => rfl
    | some j => simp
theorem litEq_bits {x y : Value} (h : litEq x y = some true) (n : Nat) : Instr.sameBits n y x = true := by
  cases x <;> cases y <;> simp only [litEq, reduceCtorEq, Option.some.injEq] at h
  all_goals first
    | (split at h
       · rename_i hk
         simp only [Option.some.injEq, beq_iff_eq] at h
         subst hk h
         simp [Instr.sameBits]
       · cases h)
    | (simp only [beq_iff_eq] at h; subst h; simp [Instr.sameBits]; done)
    | (simp only [ByteArray.toList_eq, beq_iff_eq] at h
       have e := ByteArray.ext (Array.ext' h)
       subst e
       simp only [Instr.sameBits]
       exact beqBA.2 rfl)
theorem sEq_bits (n : Nat) : ∀ {k cs : List Value}, sEq k cs = some true → cs.length = k.length ∧ ((cs.zip k).all fun (x, y) => Instr.sameBits n x y) = true
  | [], [], _ => by simp
  | [], _ :: _, h => by simp [sEq] at h
  | _ :: _, [], h => by simp [sEq] at h
  | x :: k, y :: cs, h => by
    simp only [sEq] at h
    split at h
    · rename_i a b ha hb
      simp only [Option.some.injEq, Bool.and_eq_true] at h
      obtain ⟨rfl, rfl⟩ := h
      obtain ⟨h1, h2⟩ := sEq_bits n hb
      refine ⟨by simp [h1], ?_⟩
      simp only [List.zip_cons_cons, List.all_cons, h2, litEq_bits ha, Bool.and_self]
    · cases h
theorem keyStays {k : List Value} {cs : Array Value} (h : sEq k cs.toList = some true) : Instr.sameBits 10000 (.agg cs) (.agg k.toArray) = true := by
  obtain ⟨h1, h2⟩ := sEq_bits 9999 h
  simp only [Instr.sameBits, Bool.and_eq_true, beq_iff_eq]
  exact ⟨by simpa using h1, by simpa using h2⟩
def alookR (ks : List CK) (z : AV) (ok : Bool) (x k : AV) (S : Store) : Option AV :=
  match x, k with
  | .mref t, .agg cs => match S t, lits cs with
    | some (.map es), some vs => if vs.map ckOf = ks.map some then (match mIdxR ks vs es with
      | some (some i) => match es[i]? with
        | some e => some (if ok then .tuple [e.2, .lit (.bool true)] else e.2)
        | none => none
      | some none => some (if ok then .tuple [z, .lit (.bool false)] else z)
      | none => none) else none
    | _, _ => none
  | _, _ => none
def amputR (ks : List CK) (x k v : AV) (S : Store) : Option Store :=
  match x, k with
  | .mref t, .agg cs => match S t, lits cs with
    | some (.map es), some vs => if vs.map ckOf = ks.map some then (match mIdxR ks vs es with
      | some (some i) => some (S.set t (.map (es.set i (.agg vs.toArray, v))))
      | some none => some (S.set t (.map (es ++ [(.agg vs.toArray, v)])))
      | none => none) else none
    | _, _ => none
  | _, _ => none
theorem alookR_ok (h : Rel m S w) {t kt et : TypeId} (ht : P.underlying t = some (.map kt et)) {fs : Array Field} (hu : P.underlying kt = some (.struct fs)) {ks : List CK} (hks : ckT P 20 kt = some ks) {inf : TypeInfo} {z : Value} (hi : P.info? et = some inf) (hz : inf.zero = some z) (hzc : constOk z = true)
    {x k r : AV} {v u : Value} (hx : RelV m x v) (hkv : RelV m k u) {ok : Bool} (he : alookR ks (AV.ofValue z) ok x k S = some r) : ∃ y, (Instr.lookup t v u ok).run P w = .ok y w ∧ RelV m r y := by
  unfold alookR at he
  split at he
  · rename_i t' cs
    split at he
    · rename_i es vs hS hlits
      split at he
      · rename_i hck
        cases hx with
        | mref hL =>
          rename_i L
          have := agg_lits hkv hlits; subst this
          have rz := relV_ofValue m hzc
          have hlen : vs.length = ks.length := by have := congrArg List.length hck; simpa using this
          have hchk : ∀ em, (Instr.checkKey em 10000 kt (.agg vs.toArray)).run P w = .ok () w := fun em => by
            have := run_checkKey_ck (P := P) (w := w) (em := em) 20 10000 kt ks vs (by omega) hks hlen hck
            simpa [wrapT, hu] using this
          split at he
          · rename_i i hidx
            obtain ⟨es', clock, hb, ho, hf⟩ := map_findR (P := P) h hL hS hu hks hck hidx
            split at he
            · rename_i e hei
              simp only [Option.some.injEq] at he; subst he
              cases ho with
              | map hl hbn hd hkk =>
                obtain ⟨hlt, rfl⟩ := List.getElem?_eq_some_iff.1 hei
                obtain ⟨e', he', _, hv⟩ := hkk i hlt
                refine ⟨if ok then .tuple #[e'.val, .bool true] else e'.val, ?_, ?_⟩
                · simp [Instr.lookup, run_underlying ht, run_getObj_map hb, hchk, hf, he']
                · cases ok
                  · exact hv
                  · refine .tuple rfl fun j hj => ?_
                    match j, hj with
                    | 0, _ => exact hv
                    | 1, _ => exact .lit _ rfl
            · cases he
          · rename_i hidx
            obtain ⟨es', clock, hb, ho, hf⟩ := map_findR (P := P) h hL hS hu hks hck hidx
            simp only [Option.some.injEq] at he; subst he
            refine ⟨if ok then .tuple #[z, .bool false] else z, ?_, ?_⟩
            · simp [Instr.lookup, run_underlying ht, run_getObj_map hb, hchk, hf, zeroValue, typeInfo, hi, hz]
            · cases ok
              · exact rz
              · refine .tuple rfl fun j hj => ?_
                match j, hj with
                | 0, _ => exact rz
                | 1, _ => exact .lit _ rfl
          · cases he
      · cases he
    · cases he
  · cases he
theorem amputR_ok (h : Rel m S w) {t kt et : TypeId} (ht : P.underlying t = some (.map kt et)) {fs : Array Field} (hu : P.underlying kt = some (.struct fs)) {ks : List CK} (hks : ckT P 20 kt = some ks) {x k y : AV} {v u q : Value} (hx : RelV m x v) (hkv : RelV m k u) (hy : RelV m y q) {S' : Store} (he : amputR ks x k y S = some S') :
    ∃ w', (Instr.mapUpdate t v u q).run P w = .ok () w' ∧ Rel m S' w' := by
  unfold amputR at he
  split at he
  · rename_i t' cs
    split at he
    · rename_i es vs hS hlits
      split at he
      · rename_i hck
        cases hx with
        | mref hL =>
          rename_i L
          have := agg_lits hkv hlits; subst this
          have hlen : vs.length = ks.length := by have := congrArg List.length hck; simpa using this
          have hchk : ∀ em, (Instr.checkKey em 10000 kt (.agg vs.toArray)).run P w = .ok () w := fun em => by
            have := run_checkKey_ck (P := P) (w := w) (em := em) 20 10000 kt ks vs (by omega) hks hlen hck
            simpa [wrapT, hu] using this
          split at he
          · rename_i i hidx
            obtain ⟨es', clock, hb, ho, hf⟩ := map_findR (P := P) h hL hS hu hks hck hidx
            simp only [Option.some.injEq] at he; subst he
            obtain ⟨hlt, cs0, v0, hv0, hse⟩ := mIdxR_lt hidx
            cases ho with
            | map hl hbn hd hkk =>
              obtain ⟨e', he', hke, _⟩ := hkk i hlt
              have hkey : e'.key = .agg cs0 := by
                rw [hke]
                obtain ⟨hlt', e0⟩ := List.getElem?_eq_some_iff.1 hv0
                rw [e0]
              have hi' : i < es'.size := by omega
              refine ⟨_, ?_, h.putMap hL (by rw [hS]; simp) (es := es'.modify i fun e => { e with key := .agg vs.toArray, val := q }) (c := clock) (.map (by simp [hl]) (fun j e hj => ?_) (fun j j' e1 e2 h1 h2 h3 => ?_) (fun j hj => ?_)) (lt_of_heap hb)⟩
              · simp [Instr.mapUpdate, run_underlying ht, run_getObj_map hb, hchk, hf, he', hkey, Instr.keyThatStays, keyStays hse, run_setObj_map hb]
              · rw [Array.getElem?_modify] at hj
                split at hj
                · obtain ⟨e0, h0, rfl⟩ := Option.map_eq_some_iff.1 hj
                  exact hbn j e0 h0
                · exact hbn j e hj
              · rw [Array.getElem?_modify] at h1 h2
                have b1 : ∃ e0, es'[j]? = some e0 ∧ e0.born = e1.born := by
                  split at h1
                  · obtain ⟨e0, h0, rfl⟩ := Option.map_eq_some_iff.1 h1; exact ⟨e0, h0, rfl⟩
                  · exact ⟨e1, h1, rfl⟩
                have b2 : ∃ e0, es'[j']? = some e0 ∧ e0.born = e2.born := by
                  split at h2
                  · obtain ⟨e0, h0, rfl⟩ := Option.map_eq_some_iff.1 h2; exact ⟨e0, h0, rfl⟩
                  · exact ⟨e2, h2, rfl⟩
                obtain ⟨f1, g1, g2⟩ := b1
                obtain ⟨f2, g3, g4⟩ := b2
                exact hd j j' f1 f2 g1 g3 (by rw [g2, g4, h3])
              · rw [List.length_set] at hj
                obtain ⟨e0, h0, h1, h2⟩ := hkk j hj
                rw [Array.getElem?_modify]
                by_cases eij : i = j
                · subst eij
                  rw [if_pos rfl, h0]
                  exact ⟨_, rfl, by simp, by simpa using hy⟩
                · rw [if_neg eij, h0]
                  refine ⟨e0, rfl, ?_, ?_⟩
                  · rw [List.getElem_set_ne eij]; exact h1
                  · rw [List.getElem_set_ne eij]; exact h2
          · rename_i hidx
            obtain ⟨es', clock, hb, ho, hf⟩ := map_findR (P := P) h hL hS hu hks hck hidx
            simp only [Option.some.injEq] at he; subst he
            cases ho with
            | map hl hbn hd hkk =>
              refine ⟨_, ?_, h.putMap hL (by rw [hS]; simp) (es := es'.push { key := .agg vs.toArray, val := q, born := clock }) (c := clock + 1) (.map (by simp [hl]) (fun j e hj => ?_) (fun j j' e1 e2 h1 h2 h3 => ?_) (fun j hj => ?_)) (lt_of_heap hb)⟩
              · simp [Instr.mapUpdate, run_underlying ht, run_getObj_map hb, hchk, hf, run_setObj_map hb]
              · rw [Array.getElem?_push] at hj
                split at hj
                · simp only [Option.some.injEq] at hj; subst hj; simp
                · have := hbn j e hj; omega
              · rw [Array.getElem?_push] at h1 h2
                split at h1 <;> split at h2
                · omega
                · simp only [Option.some.injEq] at h1; subst h1
                  have := hbn _ _ h2
                  simp only at h3; omega
                · simp only [Option.some.injEq] at h2; subst h2
                  have := hbn _ _ h1
                  simp only at h3; omega
                · exact hd j j' e1 e2 h1 h2 h3
              · by_cases hjl : j < es.length
                · obtain ⟨e0, h0, h1, h2⟩ := hkk j hjl
                  refine ⟨e0, ?_, ?_, ?_⟩
                  · rw [Array.getElem?_push, if_neg (by omega)]; exact h0
                  · rw [List.getElem_append_left hjl]; exact h1
                  · rw [List.getElem_append_left hjl]; exact h2
                · have : j = es.length := by simp at hj; omega
                  subst this
                  exact ⟨_, by rw [hl, Array.getElem?_push, if_pos rfl], by simp, by simpa using hy⟩
          · cases he
      · cases he
    · cases he
  · cases he
def recMap (P : Program) (t : TypeId) : Option (List CK) :=
  match P.underlying t with
  | some (.map kt _) => match P.underlying kt with
    | some (.struct _) => ckT P 20 kt
    | _ => none
  | _ => none
theorem recMap_spec {t : TypeId} {ks : List CK} (h : recMap P t = some ks) : ∃ kt et fs, P.underlying t = some (.map kt et) ∧ P.underlying kt = some (.struct fs) ∧ ckT P 20 kt = some ks := by
  unfold recMap at h
  split at h
  · rename_i kt et hu
    split at h
    · rename_i fs hk; exact ⟨kt, et, fs, hu, hk, h⟩
    · cases h
  · cases h
end
end Go.Du
