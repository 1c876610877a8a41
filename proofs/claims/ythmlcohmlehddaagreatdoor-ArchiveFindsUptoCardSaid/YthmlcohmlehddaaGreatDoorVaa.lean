/- What is proved: at every archive row that the statement's guards let in, the rows of a key, and of keys, are the document's, so that the spec answers true.
Conditions: the call's arguments together hold at most 1048576 values and letters (the card's own bound); no other. -/
import Derived.CallsIn
import Derived.RangeFuncLeaves
import Derived.Laws.AppendOwn
import Derived.Laws.OwnMore
import Derived.Laws.StructEq
import Derived.Laws.BytesArg
import Derived.Laws.Slices
import Derived.Laws.MakeOwn
import Derived.Great.FillDense
import Derived.Lib.ConvBytes
set_option linter.all false
namespace Go.Du
inductive AV where
  | poison
  | lit (v : Value)
  | ptr (t i off : Nat)
  | fptr (cs : List AV) (off : Nat)
  | sref (t off len : Nat)
  | svals (l : List (List AV))
  | s0
  | mref (t : Nat)
  | itr (t : Nat)
  | func (fn : Fn) (first captured : List AV)
  | yield (t : Nat)
  | iface (ty : TypeId) (v : AV)
  | agg (cs : List AV)
  | tuple (vs : List AV)
inductive AObj where
  | row (ty : TypeId) (sz : Nat) (elems : List (List AV))
  | rowF (ty : TypeId) (sz : Nat) (elems : List (List AV))
  | map (es : List (Value × AV))
  | mapB (es : List (Value × AV)) (births : List Nat) (clock : Nat)
  | iter (mt : Nat) (seen : List Nat) (clock : Nat)
  | lrec (state : LoopState) (pending : Option Code) (tm : Nat → AV) (n : Nat) (fn : FuncId) (ps : Array Tmp) (assign body : Code) (D : Nat)
abbrev Store := Nat → Option AObj
abbrev St := Nat → AV
structure Loc where
  b : Nat
  sz : Nat
  cap : Nat
structure Mu where
  loc : Nat → Option Loc
  Z : Nat → Option Obj
  H : List (Nat × Obj)
  os : Os
  out : Array (Nat × ByteArray)
  tape : Nat → Question → Nat
structure Mu.le (m m' : Mu) : Prop where
  loc : ∀ t L, m.loc t = some L → m'.loc t = some L
  Z : ∀ b o, m.Z b = some o → m'.Z b = some o
  os : m'.os = m.os
  out : m'.out = m.out
  tape : m'.tape = m.tape
theorem Mu.le.refl (m : Mu) : m.le m := ⟨fun _ _ h => h, fun _ _ h => h, rfl, rfl, rfl⟩
theorem Mu.le.trans {a b c : Mu} (h : a.le b) (k : b.le c) : a.le c :=
  ⟨fun t L h' => k.loc t L (h.loc t L h'), fun b o h' => k.Z b o (h.Z b o h'), k.os.trans h.os, k.out.trans h.out, k.tape.trans h.tape⟩
inductive RelV (m : Mu) : AV → Value → Prop where
  | poison (v : Value) : RelV m .poison v
  | lit (v : Value) (h : v.oneCell' = true) : RelV m (.lit v) v
  | ptr {t i off : Nat} {L : Loc} (h : m.loc t = some L) : RelV m (.ptr t i off) (.pointer (some ⟨L.b, i * L.sz + off, none⟩))
  | fptr {cs : List AV} {off b o : Nat} {cur : Array Value} {e : TypeId} {fr : Nat × Nat} (hz : m.Z b = some (.cells cur e fr)) (f : Nat → Value)
      (hc : ∀ j, j < cs.length → cur[o + j]? = some (f j)) (h1 : ∀ j, j < cs.length → (f j).oneCell' = true) (hr : ∀ j (h : j < cs.length), RelV m cs[j] (f j)) :
      RelV m (.fptr cs off) (.pointer (some ⟨b, o + off, none⟩))
  | sref {t off len : Nat} {L : Loc} (h : m.loc t = some L) (hc : off + len ≤ L.cap) : RelV m (.sref t off len) (.slice (some ⟨L.b, off * L.sz, none⟩) len (L.cap - off))
  | sempty (a : Option Addr) (c : Nat) : RelV m (.svals []) (.slice a 0 c)
  | s0 (a : Option Addr) : RelV m .s0 (.slice a 0 0)
  | svals {l : List (List AV)} {b o sz c : Nat} {cur : Array Value} {e : TypeId} {fr : Nat × Nat} (hz : m.Z b = some (.cells cur e fr)) (hl : ∀ x ∈ l, x.length = sz) (f : Nat → Nat → Value)
      (hc : ∀ i j, i < l.length → j < sz → cur[o + i * sz + j]? = some (f i j)) (h1 : ∀ i j, i < l.length → j < sz → (f i j).oneCell' = true)
      (hr : ∀ i (hi : i < l.length) j (hj : j < l[i].length), RelV m l[i][j] (f i j)) (hcap : l.length ≤ c) :
      RelV m (.svals l) (.slice (some ⟨b, o, none⟩) l.length c)
  | mref {t : Nat} {L : Loc} (h : m.loc t = some L) : RelV m (.mref t) (.map (some L.b))
  | itr {t : Nat} {L : Loc} (h : m.loc t = some L) : RelV m (.itr t) (.pointer (some ⟨L.b, 0, none⟩))
  | func {fn : Fn} {first cap : List AV} {first' cap' : Array Value} (h1 : first.length = first'.size) (h2 : cap.length = cap'.size)
      (r1 : ∀ j (h : j < first.length), RelV m first[j] (first'.getD j undef)) (r2 : ∀ j (h : j < cap.length), RelV m cap[j] (cap'.getD j undef)) :
      RelV m (.func fn first cap) (.func fn first' cap')
  | yield {t : Nat} {L : Loc} (h : m.loc t = some L) : RelV m (.yield t) (.func (.yield L.b) #[] #[])
  | iface {ty : TypeId} {v : AV} {v' : Value} (h : RelV m v v') : RelV m (.iface ty v) (.iface ty v')
  | agg {cs : List AV} {cs' : Array Value} (h : cs.length = cs'.size) (h1 : ∀ j, j < cs.length → (cs'.getD j undef).oneCell' = true)
      (r : ∀ j (h : j < cs.length), RelV m cs[j] (cs'.getD j undef)) : RelV m (.agg cs) (.agg cs')
  | tuple {cs : List AV} {cs' : Array Value} (h : cs.length = cs'.size) (r : ∀ j (h : j < cs.length), RelV m cs[j] (cs'.getD j undef)) : RelV m (.tuple cs) (.tuple cs')
theorem RelV.mono {m m' : Mu} (hle : m.le m') {a : AV} {v : Value} (h : RelV m a v) : RelV m' a v := by
  induction h with
  | poison v => exact .poison v
  | lit v h => exact .lit v h
  | ptr h => exact .ptr (hle.loc _ _ h)
  | fptr hz f hc h1 hr ih => exact .fptr (hle.Z _ _ hz) f hc h1 ih
  | sref h hc => exact .sref (hle.loc _ _ h) hc
  | sempty a c => exact .sempty a c
  | s0 a => exact .s0 a
  | svals hz hl f hc h1 hr hcap ih => exact .svals (hle.Z _ _ hz) hl f hc h1 ih hcap
  | mref h => exact .mref (hle.loc _ _ h)
  | itr h => exact .itr (hle.loc _ _ h)
  | func h1 h2 r1 r2 ih1 ih2 => exact .func h1 h2 ih1 ih2
  | yield h => exact .yield (hle.loc _ _ h)
  | iface h ih => exact .iface ih
  | agg h h1 r ih => exact .agg h h1 ih
  | tuple h r ih => exact .tuple h ih
structure RowOk (m : Mu) (ty sz cap : Nat) (elems : List (List AV)) (cur : Array Value) : Prop where
  size : cur.size = cap * sz
  le : elems.length ≤ cap
  capLe : cap ≤ maxLen
  len : ∀ x ∈ elems, x.length = sz
  one : ∀ (j : Nat) (v : Value), cur[j]? = some v → v.oneCell' = true
  rel : ∀ i (hi : i < elems.length) j (hj : j < elems[i].length), RelV m elems[i][j] (cur.getD (i * sz + j) undef)
inductive ObjOk (m : Mu) (L : Loc) : AObj → Obj → Prop where
  | row {ty sz : Nat} {elems : List (List AV)} {cur : Array Value} (hs : L.sz = sz) (h : RowOk m ty sz L.cap elems cur) : ObjOk m L (.row ty sz elems) (.cells cur ty (0, 0))
  | rowF {ty sz : Nat} {elems : List (List AV)} {cur : Array Value} (hs : L.sz = sz) (hc : L.cap = elems.length) (h : RowOk m ty sz L.cap elems cur) : ObjOk m L (.rowF ty sz elems) (.cells cur ty (0, 0))
  | map {es : List (Value × AV)} {es' : Array MapEntry} {clock : Nat} (hl : es.length = es'.size)
      (hb : ∀ (i : Nat) (e : MapEntry), es'[i]? = some e → e.born < clock) (hd : ∀ (i j : Nat) (e e' : MapEntry), es'[i]? = some e → es'[j]? = some e' → e.born = e'.born → i = j)
      (hk : ∀ i (h : i < es.length), ∃ e, es'[i]? = some e ∧ e.key = es[i].1 ∧ RelV m es[i].2 e.val) : ObjOk m L (.map es) (.map es' clock)
  | mapB {es : List (Value × AV)} {es' : Array MapEntry} {births : List Nat} {clock : Nat} (hl : es.length = es'.size) (hb : es'.toList.map (·.born) = births) (hc : ∀ b ∈ births, b < clock) (hd : births.Nodup)
      (hk : ∀ i (h : i < es.length), ∃ e, es'[i]? = some e ∧ e.key = es[i].1 ∧ RelV m es[i].2 e.val) : ObjOk m L (.mapB es births clock) (.map es' clock)
  | iter {mt : Nat} {seen : List Nat} {clock : Nat} {Lm : Loc} {seen' : Array Nat} (hm : m.loc mt = some Lm) (hs : seen'.toList = seen) : ObjOk m L (.iter mt seen clock) (.mapIter (some Lm.b) clock seen' clock)
  | lrec {state : LoopState} {pending : Option Code} {tm : Nat → AV} {n : Nat} {fn : FuncId} {ps : Array Tmp} {assign body : Code} {D : Nat} {tmps : Array Value} (hs : tmps.size = n) (hr : ∀ i, i < n → RelV m (tm i) (tmps.getD i undef)) :
      ObjOk m L (.lrec state pending tm n fn ps assign body D) (.loop { state, pending, fn, tmps, params := ps, assign, body, defers := D })
theorem RowOk.mono {m m' : Mu} (hle : m.le m') {ty sz cap : Nat} {elems : List (List AV)} {cur : Array Value} (h : RowOk m ty sz cap elems cur) : RowOk m' ty sz cap elems cur :=
  ⟨h.size, h.le, h.capLe, h.len, h.one, fun i hi j hj => (h.rel i hi j hj).mono hle⟩
theorem ObjOk.mono {m m' : Mu} (hle : m.le m') {L : Loc} {o : AObj} {ob : Obj} (h : ObjOk m L o ob) : ObjOk m' L o ob := by
  cases h with
  | row hs h => exact .row hs (h.mono hle)
  | rowF hs hc h => exact .rowF hs hc (h.mono hle)
  | map hl hb hd hk =>
    refine .map hl hb hd fun i hi => ?_
    obtain ⟨e, he, hkey, hv⟩ := hk i hi
    exact ⟨e, he, hkey, hv.mono hle⟩
  | mapB hl hb hc hd hk =>
    refine .mapB hl hb hc hd fun i hi => ?_
    obtain ⟨e, he, hkey, hv⟩ := hk i hi
    exact ⟨e, he, hkey, hv.mono hle⟩
  | iter hm hs => exact .iter (hle.loc _ _ hm) hs
  | lrec hs hr => exact .lrec hs fun i hi => (hr i hi).mono hle
structure Rel (m : Mu) (S : Store) (w : World) : Prop where
  z : ∀ b o, m.Z b = some o → w.heap[b]? = some o
  h : ∀ b o, (b, o) ∈ m.H → w.heap[b]? = some o ∧ m.Z b = none
  owned : ∀ t o L, S t = some o → m.loc t = some L → m.Z L.b = none ∧ (∀ o', (L.b, o') ∉ m.H) ∧ ∃ ob, w.heap[L.b]? = some ob ∧ ObjOk m L o ob
  inj : ∀ t t' L L', S t ≠ none → S t' ≠ none → m.loc t = some L → m.loc t' = some L' → L.b = L'.b → t = t'
  bound : ∀ t L, m.loc t = some L → L.b < w.heap.size
  os : w.os = m.os
  out : w.output = m.out
  tape : w.tape = m.tape
  fin : ∃ N, ∀ t, N ≤ t → m.loc t = none ∧ S t = none
theorem Rel.fresh {m : Mu} {S : Store} {w : World} (h : Rel m S w) : ∃ t, m.loc t = none ∧ S t = none :=
  let ⟨N, hN⟩ := h.fin; ⟨N, hN N (Nat.le_refl _)⟩
theorem Rel.drop {m : Mu} {S S' : Store} {w : World} (h : Rel m S w) (hs : ∀ t o, S' t = some o → S t = some o) : Rel m S' w :=
  ⟨h.z, h.h, fun t o L ht => h.owned t o L (hs t o ht),
   fun t t' L L' ht ht' => h.inj t t' L L' (by cases e : S' t with | none => exact absurd e ht | some o => rw [hs t o e]; simp)
     (by cases e : S' t' with | none => exact absurd e ht' | some o => rw [hs t' o e]; simp),
   h.bound, h.os, h.out, h.tape, h.fin.imp fun N hN t ht => ⟨(hN t ht).1, by cases e : S' t with | none => rfl | some o => have := hs t o e; rw [(hN t ht).2] at this; cases this⟩⟩
theorem Rel.drew {m : Mu} {S : Store} {w : World} (h : Rel m S w) : Rel m S w.drew :=
  ⟨h.z, h.h, h.owned, h.inj, h.bound, h.os, h.out, h.tape, h.fin⟩
def Store.set (S : Store) (t : Nat) (o : AObj) : Store := fun x => if x = t then some o else S x
def Store.erase (S : Store) (t : Nat) : Store := fun x => if x = t then none else S x
@[simp] theorem Store.set_same (S : Store) (t : Nat) (o : AObj) : S.set t o t = some o := by simp [Store.set]
theorem Store.set_ne (S : Store) (t : Nat) (o : AObj) {x : Nat} (h : x ≠ t) : S.set t o x = S x := by simp [Store.set, h]
@[simp] theorem Store.set_set (S : Store) (t : Nat) (o o' : AObj) : (S.set t o).set t o' = S.set t o' := by
  funext x; simp only [Store.set]; split <;> rfl
@[simp] theorem Store.erase_same (S : Store) (t : Nat) : S.erase t t = none := by simp [Store.erase]
theorem Store.erase_ne (S : Store) (t : Nat) {x : Nat} (h : x ≠ t) : S.erase t x = S x := by simp [Store.erase, h]
theorem Store.erase_set (S : Store) (t : Nat) (o : AObj) (h : S t = none) : (S.set t o).erase t = S := by
  funext x; simp only [Store.erase, Store.set]; split
  · rename_i e; subst e; exact h.symm
  · rfl
def Mu.name (m : Mu) (t : Nat) (L : Loc) : Mu := { m with loc := fun x => if x = t then some L else m.loc x }
def Mu.freeze (m : Mu) (b : Nat) (o : Obj) : Mu := { m with Z := fun x => if x = b then some o else m.Z x }
theorem Mu.le_name {m : Mu} {t : Nat} {L : Loc} (h : m.loc t = none) : m.le (m.name t L) :=
  ⟨fun x L' hx => by simp only [Mu.name]; split; (· rename_i e; subst e; rw [h] at hx; cases hx); exact hx, fun _ _ h => h, rfl, rfl, rfl⟩
theorem Mu.le_freeze {m : Mu} {b : Nat} {o : Obj} (h : m.Z b = none) : m.le (m.freeze b o) :=
  ⟨fun _ _ h => h, fun x o' hx => by simp only [Mu.freeze]; split; (· rename_i e; subst e; rw [h] at hx; cases hx); exact hx, rfl, rfl, rfl⟩
theorem heap_alloc_ne {w : World} {o : Obj} {b : Nat} (h : b < w.heap.size) : (w.alloc o).heap[b]? = w.heap[b]? := heap_alloc_old w o b h
theorem lt_of_heap {w : World} {b : Nat} {o : Obj} (h : w.heap[b]? = some o) : b < w.heap.size := (Array.getElem?_eq_some_iff.1 h).1
theorem Rel.new {m : Mu} {S : Store} {w : World} (h : Rel m S w) {t : Nat} (ht : m.loc t = none) {L : Loc} (hL : L.b = w.heap.size) {o : AObj} {ob : Obj} (ho : ObjOk m L o ob) :
    Rel (m.name t L) (S.set t o) (w.alloc ob) := by
  have hle : m.le (m.name t L) := Mu.le_name ht
  have hlt : ∀ x L', m.loc x = some L' → L'.b < w.heap.size := h.bound
  refine ⟨fun b o' hb => ?_, fun b o' hb => ?_, fun x o' L' hx hx' => ?_, fun x x' L1 L2 h1 h2 h3 h4 h5 => ?_, fun x L' hx => ?_, h.os, h.out, h.tape, ?_⟩
  rotate_right
  · obtain ⟨N, hN⟩ := h.fin
    exact ⟨max N (t + 1), fun x hx => ⟨by simp only [Mu.name]; rw [if_neg (by omega)]; exact (hN x (by omega)).1, by rw [Store.set_ne S t o (by omega)]; exact (hN x (by omega)).2⟩⟩
  · have := h.z b o' hb; rw [heap_alloc_ne (lt_of_heap this)]; exact this
  · have := h.h b o' hb; exact ⟨by rw [heap_alloc_ne (lt_of_heap this.1)]; exact this.1, this.2⟩
  · by_cases e : x = t
    · subst e
      simp only [Store.set_same, Option.some.injEq] at hx
      simp only [Mu.name, ↓reduceIte, Option.some.injEq] at hx'
      subst hx hx'
      refine ⟨?_, fun o'' hm => ?_, ob, ?_, ho.mono hle⟩
      · cases hz : m.Z L.b with
        | none => exact hz
        | some o'' => have := lt_of_heap (h.z _ _ hz); omega
      · have := lt_of_heap (h.h _ _ hm).1; omega
      · rw [hL]; exact heap_alloc_new w ob
    · rw [Store.set_ne S t o e] at hx
      simp only [Mu.name, if_neg e] at hx'
      obtain ⟨g1, g2, ob', g3, g4⟩ := h.owned x o' L' hx hx'
      exact ⟨g1, g2, ob', by rw [heap_alloc_ne (lt_of_heap g3)]; exact g3, g4.mono hle⟩
  · by_cases e1 : x = t
    · by_cases e2 : x' = t
      · rw [e1, e2]
      · subst e1
        simp only [Mu.name, ↓reduceIte, Option.some.injEq] at h3
        simp only [Mu.name, if_neg e2] at h4
        subst h3
        have := hlt _ _ h4; omega
    · by_cases e2 : x' = t
      · subst e2
        simp only [Mu.name, ↓reduceIte, Option.some.injEq] at h4
        simp only [Mu.name, if_neg e1] at h3
        subst h4
        have := hlt _ _ h3; omega
      · simp only [Mu.name, if_neg e1] at h3
        simp only [Mu.name, if_neg e2] at h4
        rw [Store.set_ne S t o e1] at h1
        rw [Store.set_ne S t o e2] at h2
        exact h.inj x x' L1 L2 h1 h2 h3 h4 h5
  · by_cases e : x = t
    · subst e
      simp only [Mu.name, ↓reduceIte, Option.some.injEq] at hx
      subst hx; simp [hL]
    · simp only [Mu.name, if_neg e] at hx
      have := hlt _ _ hx
      simp; omega
theorem Rel.newZ {m : Mu} {S : Store} {w : World} (h : Rel m S w) (ob : Obj) : m.le (m.freeze w.heap.size ob) ∧ Rel (m.freeze w.heap.size ob) S (w.alloc ob) := by
  have hz : m.Z w.heap.size = none := by
    cases hz : m.Z w.heap.size with
    | none => rfl
    | some o => have := lt_of_heap (h.z _ _ hz); omega
  have hle : m.le (m.freeze w.heap.size ob) := Mu.le_freeze hz
  refine ⟨hle, fun b o' hb => ?_, fun b o' hb => ?_, fun x o' L' hx hx' => ?_, h.inj, fun x L' hx => ?_, h.os, h.out, h.tape, h.fin⟩
  · simp only [Mu.freeze] at hb
    split at hb
    · rename_i e; subst e; simp only [Option.some.injEq] at hb; subst hb; exact heap_alloc_new w ob
    · have := h.z b o' hb; rw [heap_alloc_ne (lt_of_heap this)]; exact this
  · have := h.h b o' hb
    have hl := lt_of_heap this.1
    exact ⟨by rw [heap_alloc_ne hl]; exact this.1, by simp only [Mu.freeze]; rw [if_neg (by omega)]; exact this.2⟩
  · obtain ⟨g1, g2, ob', g3, g4⟩ := h.owned x o' L' hx hx'
    have hl := lt_of_heap g3
    exact ⟨by simp only [Mu.freeze]; rw [if_neg (by omega)]; exact g1, g2, ob', by rw [heap_alloc_ne hl]; exact g3, g4.mono hle⟩
  · have := h.bound x L' hx; simp; omega
theorem Rel.write {m : Mu} {S : Store} {w w' : World} (h : Rel m S w) {t : Nat} {L : Loc} (hL : m.loc t = some L) (hS : S t ≠ none) {o : AObj} {ob : Obj} (ho : ObjOk m L o ob)
    (hw : w'.heap[L.b]? = some ob) (hother : ∀ b, b ≠ L.b → w'.heap[b]? = w.heap[b]?) (hos : w'.os = w.os) (hout : w'.output = w.output) (htape : w'.tape = w.tape) (hsz : w'.heap.size = w.heap.size) :
    Rel m (S.set t o) w' := by
  obtain ⟨o0, hS0⟩ : ∃ o0, S t = some o0 := by cases e : S t with | none => exact absurd e hS | some o0 => exact ⟨o0, rfl⟩
  obtain ⟨k1, k2, _, k3, _⟩ := h.owned t o0 L hS0 hL
  refine ⟨fun b o' hb => ?_, fun b o' hb => ?_, fun x o' L' hx hx' => ?_, fun x x' L1 L2 h1 h2 h3 h4 h5 => ?_, fun x L' hx => by rw [hsz]; exact h.bound x L' hx, hos.trans h.os, hout.trans h.out, htape.trans h.tape, ?_⟩
  rotate_right
  · obtain ⟨N, hN⟩ := h.fin
    refine ⟨N, fun x hx => ⟨(hN x hx).1, ?_⟩⟩
    by_cases e : x = t
    · subst e; rw [(hN x hx).1] at hL; cases hL
    · rw [Store.set_ne S t o e]; exact (hN x hx).2
  · by_cases e : b = L.b
    · subst e; rw [k1] at hb; cases hb
    · rw [hother b e]; exact h.z b o' hb
  · by_cases e : b = L.b
    · subst e; exact absurd hb (k2 o')
    · rw [hother b e]; exact h.h b o' hb
  · by_cases e : x = t
    · subst e
      simp only [Store.set_same, Option.some.injEq] at hx
      rw [hL] at hx'; simp only [Option.some.injEq] at hx'
      subst hx hx'
      exact ⟨k1, k2, ob, hw, ho⟩
    · rw [Store.set_ne S t o e] at hx
      obtain ⟨g1, g2, ob', g3, g4⟩ := h.owned x o' L' hx hx'
      refine ⟨g1, g2, ob', ?_, g4⟩
      rw [hother L'.b fun e' => e (h.inj x t L' L (by rw [hx]; simp) hS hx' hL e')]; exact g3
  · refine h.inj x x' L1 L2 ?_ ?_ h3 h4 h5
    · by_cases e : x = t
      · subst e; exact hS
      · rwa [Store.set_ne S t o e] at h1
    · by_cases e : x' = t
      · subst e; exact hS
      · rwa [Store.set_ne S t o e] at h2
end Go.Du
namespace Go.Du
def Fw (r : Option Nat) : Fence := { Fence.wide with round := r }
def itemsIn (F : Fence) (P : Program) (xs : List Item) (Q : Exit → Act → World → Prop) (a : Act) (w : World) : Prop :=
  ∀ (b : Frame) (k : List Item) (cs : List Frame), b.roundOf = F.round → F.fn b.fn → F.room (cs.length + 1 + 0) →
    ∃ e a' w', Q e a' w' ∧ ArrivesIn (Machine.fenced P F) P (lone (b.atR a (xs ++ k)) cs w) b k cs e a' w'
theorem itemsIn_code {F : Fence} {P : Program} {c : Code} {Q : Exit → Act → World → Prop} {a : Act} {w : World} : itemsIn F P [.code c] Q a w = c.wpIn F 0 P Q a w := rfl
section
variable {F : Fence} {P : Program} {Q : Exit → Act → World → Prop} {a : Act} {w : World}
theorem itemsIn_loop {c : Code} (h : itemsIn F P [.code c, .inLoop c] Q a w) : itemsIn F P [.code (.loop c)] Q a w := by
  intro b k cs hro hb hr
  obtain ⟨e, a', w', q, harr⟩ := h b k cs hro hb hr
  exact ⟨e, a', w', q, .of_steps (.one (fenced_calm hb hr rfl) stepR_loop) harr⟩
theorem itemsIn_round {c : Code} (h : itemsIn F P [.code c] (Exit.then (itemsIn F P [.code c, .inLoop c] Q) Q) a w) : itemsIn F P [.code c, .inLoop c] Q a w := by
  intro b k cs hro hb hr
  obtain ⟨e, a₁, w₁, hq, harr⟩ := h b (.inLoop c :: k) cs hro hb hr
  cases e with
  | normal =>
    obtain ⟨e₂, a₂, w₂, hq₂, harr₂⟩ := hq b k cs hro hb hr
    exact ⟨e₂, a₂, w₂, hq₂, .of_steps (StepsIn.trans harr (.one (fenced_calm hb hr rfl) stepR_inLoop)) harr₂⟩
  | exit id => exact ⟨_, a₁, w₁, hq, .pass (x := .inLoop c) rfl (fun _ _ => .inl (by simp)) harr⟩
  | goto l => exact ⟨_, a₁, w₁, hq, .pass (x := .inLoop c) rfl (fun _ _ => .inl (by simp)) harr⟩
  | ret => exact ⟨_, a₁, w₁, hq, .pass (x := .inLoop c) rfl (fun _ _ => .inl (by simp)) harr⟩
  | panic ch => exact ⟨_, a₁, w₁, hq, .pass (x := .inLoop c) rfl (fun _ _ => .inl (by simp)) harr⟩
  | outgrown => exact ⟨_, a₁, w₁, hq, .pass (x := .inLoop c) rfl (fun _ _ => .inl (by simp)) harr⟩
theorem stepR_scope {b : Frame} {k : List Item} {cs : List Frame} {c : Code} : step P (lone (b.atR a (.code (.scope c) :: k)) cs w) = .next (lone (b.atR a (.code c :: .inScope c :: k)) cs w) :=
  step_lone_go (by simp [stepG, stepG.exec, Frame.atR])
theorem stepR_inScope {b : Frame} {k : List Item} {cs : List Frame} {c : Code} : step P (lone (b.atR a (.inScope c :: k)) cs w) = .next (lone (b.atR a k) cs w) :=
  step_lone_go (by simp [stepG, stepG.exec, Frame.atR])
theorem itemsIn_scope {c : Code} (h : itemsIn F P [.code c, .inScope c] Q a w) : itemsIn F P [.code (.scope c)] Q a w := by
  intro b k cs hro hb hr
  obtain ⟨e, a', w', q, harr⟩ := h b k cs hro hb hr
  exact ⟨e, a', w', q, .of_steps (.one (fenced_calm hb hr rfl) stepR_scope) harr⟩
def scopeExit (F : Fence) (P : Program) (c : Code) (Q : Exit → Act → World → Prop) : Exit → Act → World → Prop
  | .goto l, a, w => match findLabel c l with
    | some rest => itemsIn F P [.code rest, .inScope c] Q a w
    | none => Q (.goto l) a w
  | e, a, w => Q e a w
theorem itemsIn_inScope {c x : Code} (h : itemsIn F P [.code x] (scopeExit F P c Q) a w) : itemsIn F P [.code x, .inScope c] Q a w := by
  intro b k cs hro hb hr
  obtain ⟨e, a₁, w₁, hq, harr⟩ := h b (.inScope c :: k) cs hro hb hr
  cases e with
  | normal => exact ⟨.normal, a₁, w₁, hq, StepsIn.trans harr (.one (fenced_calm hb hr rfl) stepR_inScope)⟩
  | exit id => exact ⟨_, a₁, w₁, hq, fun k' hk => harr.1 k' (by simp [exitTo, hk]), fun hr' hk => harr.2 hr' (by simp [exitTo, hk])⟩
  | goto l =>
    simp only [scopeExit] at hq
    cases hf : findLabel c l with
    | none =>
      rw [hf] at hq
      exact ⟨_, a₁, w₁, hq, fun k' hk => harr.1 k' (by simp [gotoIn, hf, hk]), fun hr' hk => harr.2 hr' (by simp [gotoIn, hf, hk])⟩
    | some rest =>
      rw [hf] at hq
      obtain ⟨e₂, a₂, w₂, hq₂, harr₂⟩ := hq b k cs hro hb hr
      exact ⟨e₂, a₂, w₂, hq₂, .of_steps (harr.1 (.code rest :: .inScope c :: k) (by simp [gotoIn, hf])) harr₂⟩
  | ret => exact ⟨_, a₁, w₁, hq, harr⟩
  | panic ch => exact ⟨_, a₁, w₁, hq, harr⟩
  | outgrown => exact ⟨_, a₁, w₁, hq, harr⟩
theorem itemsIn_mono {xs : List Item} {Q' : Exit → Act → World → Prop} (h : itemsIn F P xs Q a w) (hq : ∀ e a w, Q e a w → Q' e a w) : itemsIn F P xs Q' a w :=
  fun b k cs hro hb hr => let ⟨e, a', w', q, r⟩ := h b k cs hro hb hr; ⟨e, a', w', hq _ _ _ q, r⟩
end
def RelT (m : Mu) (n : Nat) (st : St) (a : Array Value) : Prop := a.size = n ∧ ∀ i, i < n → RelV m (st i) (a.getD i undef)
def Dfr (H0 : List (Nat × Obj)) (m : Mu) (a : Act) : Prop :=
  ∃ D : List Nat, (a.defers = D.map (fun d => { target := .collected d, args := #[] }) ∧ D.Nodup ∧ ∀ d ∈ D, ∀ o, (d, o) ∉ H0) ∧ m.H = D.map (fun d => (d, .deferred (some []))) ++ H0
def AK := Exit → St → Store → Prop
def post (n : Nat) (H0 : List (Nat × Obj)) (m : Mu) (K : AK) : Exit → Act → World → Prop
  | .outgrown, _, _ => False
  | .panic _, _, _ => False
  | e, a, w => ∃ m' st S, m.le m' ∧ Rel m' S w ∧ RelT m' n st a.tmps ∧ Dfr H0 m' a ∧ K e st S
def AI (P : Program) (r : Option Nat) (n : Nat) (xs : List Item) (K : AK) (st : St) (S : Store) : Prop :=
  ∀ H0 m a w, Rel m S w → RelT m n st a.tmps → Dfr H0 m a → itemsIn (Fw r) P xs (post n H0 m K) a w
abbrev AWp (P : Program) (r : Option Nat) (n : Nat) (c : Code) (K : AK) (st : St) (S : Store) : Prop := AI P r n [.code c] K st S
def RelVs (m : Mu) (l : List AV) (a : Array Value) : Prop := l.length = a.size ∧ ∀ i (h : i < l.length), RelV m l[i] (a.getD i undef)
def ATriple (P : Program) (f : FuncId) (args : List AV) (S : Store) (Q : AV → Store → Prop) : Prop :=
  ∀ m w args', Rel m S w → RelVs m args args' →
    CallsIn (Fw none) 0 P f args' w fun e w' => ∃ v x S' m', e = .returned v ∧ Q x S' ∧ m.le m' ∧ m'.H = m.H ∧ Rel m' S' w' ∧ RelV m' x v
theorem ATriple.mono {P : Program} {f : FuncId} {args : List AV} {S : Store} {Q Q' : AV → Store → Prop} (h : ATriple P f args S Q) (hq : ∀ x S', Q x S' → Q' x S') : ATriple P f args S Q' :=
  fun m w a hr hv => (h m w a hr hv).mono fun _ _ ⟨v, x, S', m', he, hQ, rest⟩ => ⟨v, x, S', m', he, hq _ _ hQ, rest⟩
theorem post_mono {n : Nat} {H0 : List (Nat × Obj)} {m : Mu} {K K' : AK} (hk : ∀ e st S, K e st S → K' e st S) : ∀ e a w, post n H0 m K e a w → post n H0 m K' e a w := by
  intro e a w h
  cases e <;> first | exact h | (obtain ⟨m', st, S, h1, h2, h3, h4, h5⟩ := h; exact ⟨m', st, S, h1, h2, h3, h4, hk _ _ _ h5⟩)
theorem post_le {n : Nat} {H0 : List (Nat × Obj)} {m m1 : Mu} {K : AK} (hle : m.le m1) : ∀ e a w, post n H0 m1 K e a w → post n H0 m K e a w := by
  intro e a w h
  cases e <;> first | exact h | (obtain ⟨m', st, S, h1, h2, h3, h4, h5⟩ := h; exact ⟨m', st, S, hle.trans h1, h2, h3, h4, h5⟩)
section
variable {P : Program} {r : Option Nat} {n : Nat} {K : AK} {st : St} {S : Store}
theorem AI.mono {xs : List Item} {K' : AK} (h : AI P r n xs K st S) (hk : ∀ e st S, K e st S → K' e st S) : AI P r n xs K' st S :=
  fun H0 m a w h1 h2 h3 => itemsIn_mono (h H0 m a w h1 h2 h3) (post_mono hk)
theorem AI.weaken {xs : List Item} {st' : St} (hs : ∀ i, st' i = st i ∨ st' i = .poison) (h : AI P r n xs K st' S) : AI P r n xs K st S :=
  fun H0 m a w h1 h2 h3 => h H0 m a w h1 ⟨h2.1, fun i hi => by
    rcases hs i with e | e
    · rw [e]; exact h2.2 i hi
    · rw [e]; exact .poison _⟩ h3
theorem AWp_skip (h : K .normal st S) : AWp P r n .skip K st S :=
  fun H0 m a w h1 h2 h3 => wpIn_skip (Q := post n H0 m K) ⟨m, st, S, .refl m, h1, h2, h3, h⟩
theorem AWp_label {l : Nat} (h : K .normal st S) : AWp P r n (.label l) K st S :=
  fun H0 m a w h1 h2 h3 => wpIn_label (Q := post n H0 m K) ⟨m, st, S, .refl m, h1, h2, h3, h⟩
theorem AWp_exit {id : Nat} (h : K (.exit id) st S) : AWp P r n (.exit id) K st S :=
  fun H0 m a w h1 h2 h3 => wpIn_exit (Q := post n H0 m K) ⟨m, st, S, .refl m, h1, h2, h3, h⟩
theorem AWp_goto {l : Nat} (h : K (.goto l) st S) : AWp P r n (.goto l) K st S :=
  fun H0 m a w h1 h2 h3 => wpIn_goto (Q := post n H0 m K) ⟨m, st, S, .refl m, h1, h2, h3, h⟩
theorem AWp_ret (h : K .ret st S) : AWp P r n .ret K st S :=
  fun H0 m a w h1 h2 h3 => wpIn_ret (Q := post n H0 m K) ⟨m, st, S, .refl m, h1, h2, h3, h⟩
def AK.andThen (N : St → Store → Prop) (K : AK) : AK
  | .normal, st, S => N st S
  | e, st, S => K e st S
def AK.block (id : Nat) (K : AK) : AK
  | .exit id', st, S => if id' = id then K .normal st S else K (.exit id') st S
  | e, st, S => K e st S
def AK.scope (P : Program) (r : Option Nat) (n : Nat) (c : Code) (K : AK) : AK
  | .goto l, st, S => match findLabel c l with
    | some rest => AI P r n [.code rest, .inScope c] K st S
    | none => K (.goto l) st S
  | e, st, S => K e st S
theorem AWp_seq {x y : Code} (h : AWp P r n x (AK.andThen (AWp P r n y K) K) st S) : AWp P r n (.seq x y) K st S := by
  intro H0 m a w h1 h2 h3
  rw [itemsIn_code]
  refine wpIn_seq (wpIn_mono (h H0 m a w h1 h2 h3) ?_)
  intro e a' w' hp
  cases e with
  | normal =>
    obtain ⟨m', st', S', g1, g2, g3, g4, g5⟩ := hp
    exact wpIn_mono (g5 H0 m' a' w' g2 g3 g4) (post_le g1)
  | outgrown => exact hp
  | panic _ => exact hp
  | exit _ => exact hp
  | goto _ => exact hp
  | ret => exact hp
theorem AWp_block {id : Nat} {c : Code} (h : AWp P r n c (AK.block id K) st S) : AWp P r n (.block id c) K st S := by
  intro H0 m a w h1 h2 h3
  rw [itemsIn_code]
  refine wpIn_block (wpIn_mono (h H0 m a w h1 h2 h3) ?_)
  intro e a' w' hp
  cases e with
  | exit id' =>
    obtain ⟨m', st', S', g1, g2, g3, g4, g5⟩ := hp
    simp only [Exit.inBlock, AK.block] at g5 ⊢
    split
    · rw [if_pos ‹_›] at g5; exact ⟨m', st', S', g1, g2, g3, g4, g5⟩
    · rw [if_neg ‹_›] at g5; exact ⟨m', st', S', g1, g2, g3, g4, g5⟩
  | normal => exact hp
  | outgrown => exact hp
  | panic _ => exact hp
  | goto _ => exact hp
  | ret => exact hp
theorem AWp_loop {c : Code} (h : AI P r n [.code c, .inLoop c] K st S) : AWp P r n (.loop c) K st S :=
  fun H0 m a w h1 h2 h3 => itemsIn_loop (h H0 m a w h1 h2 h3)
theorem AI_round {c : Code} (h : AWp P r n c (AK.andThen (AI P r n [.code c, .inLoop c] K) K) st S) : AI P r n [.code c, .inLoop c] K st S := by
  intro H0 m a w h1 h2 h3
  refine itemsIn_round (itemsIn_mono (h H0 m a w h1 h2 h3) ?_)
  intro e a' w' hp
  cases e with
  | normal =>
    obtain ⟨m', st', S', g1, g2, g3, g4, g5⟩ := hp
    exact itemsIn_mono (g5 H0 m' a' w' g2 g3 g4) (post_le g1)
  | outgrown => exact hp
  | panic _ => exact hp
  | exit _ => exact hp
  | goto _ => exact hp
  | ret => exact hp
theorem AWp_scope {c : Code} (h : AI P r n [.code c, .inScope c] K st S) : AWp P r n (.scope c) K st S :=
  fun H0 m a w h1 h2 h3 => itemsIn_scope (h H0 m a w h1 h2 h3)
theorem AI_inScope {c x : Code} (h : AWp P r n x (AK.scope P r n c K) st S) : AI P r n [.code x, .inScope c] K st S := by
  intro H0 m a w h1 h2 h3
  refine itemsIn_inScope (itemsIn_mono (h H0 m a w h1 h2 h3) ?_)
  intro e a' w' hp
  cases e with
  | goto l =>
    obtain ⟨m', st', S', g1, g2, g3, g4, g5⟩ := hp
    simp only [scopeExit, AK.scope] at g5 ⊢
    cases hf : findLabel c l with
    | none => rw [hf] at g5; exact ⟨m', st', S', g1, g2, g3, g4, g5⟩
    | some rest => rw [hf] at g5; exact itemsIn_mono (g5 H0 m' a' w' g2 g3 g4) (post_le g1)
  | normal => exact hp
  | outgrown => exact hp
  | panic _ => exact hp
  | exit _ => exact hp
  | ret => exact hp
end
def AV.ofValue : Value → AV
  | .agg cs => .agg (cs.toList.map AV.lit)
  | .tuple cs => .tuple (cs.toList.map AV.lit)
  | v => .lit v
def aev (st : St) : Operand → AV
  | .tmp t => st t
  | .const v => AV.ofValue v
  | .global g => .lit (.pointer (some ⟨g, 0, none⟩))
  | .func f => .func (.func f) [] []
def constOk : Value → Bool
  | .agg cs => cs.all Value.oneCell'
  | .tuple cs => cs.all Value.oneCell'
  | _ => true
theorem relV_ofValue (m : Mu) {v : Value} (h : constOk v = true) : RelV m (AV.ofValue v) v := by
  cases v <;> first
    | exact .lit _ rfl
    | (refine .agg (by simp) (fun j hj => ?_) (fun j hj => ?_)
       · simp only [List.length_map, Array.length_toList] at hj
         simp only [constOk, Array.all_eq_true] at h
         simpa [Array.getD, hj] using h j hj
       · simp only [List.length_map, Array.length_toList] at hj
         simp only [constOk, Array.all_eq_true] at h
         simp only [List.getElem_map, Array.getElem_toList, Array.getD, hj, ↓reduceDIte]
         exact .lit _ (by simpa using h j hj))
    | (refine .tuple (by simp) (fun j hj => ?_)
       · simp only [List.length_map, Array.length_toList] at hj
         simp only [constOk, Array.all_eq_true] at h
         simp only [List.getElem_map, Array.getElem_toList, Array.getD, hj, ↓reduceDIte]
         exact .lit _ (by simpa using h j hj))
def opdOk (n : Nat) : Operand → Bool
  | .tmp t => t < n
  | .const v => constOk v
  | _ => true
theorem relV_aev {m : Mu} {n : Nat} {st : St} {a : Act} (h : RelT m n st a.tmps) {x : Operand} (hx : opdOk n x = true) : RelV m (aev st x) (a.eval x) := by
  cases x with
  | tmp t => exact h.2 t (by simpa [opdOk] using hx)
  | const v => exact relV_ofValue m hx
  | global g => exact .lit _ rfl
  | func f => exact .func rfl rfl (fun _ h => absurd h (Nat.not_lt_zero _)) (fun _ h => absurd h (Nat.not_lt_zero _))
def St.put (st : St) (d : Option Tmp) (v : AV) : St := match d with
  | some d => fun i => if i = d then v else st i
  | none => st
theorem RelT.put {m : Mu} {n : Nat} {st : St} {a : Act} (h : RelT m n st a.tmps) {d : Option Tmp} (hd : ∀ x, d = some x → x < n) {x : AV} {v : Value} (hv : RelV m x v) : RelT m n (st.put d x) (a.put d v).tmps := by
  cases d with
  | none => exact h
  | some d =>
    refine ⟨by simp [Act.put, h.1], fun i hi => ?_⟩
    have hdn := hd d rfl
    simp only [St.put, Act.put]
    by_cases e : i = d
    · subst e; rw [if_pos rfl]; simp [Array.getD, h.1, hi, hv]
    · rw [if_neg e]
      have := h.2 i hi
      simpa [Array.getD, h.1, hi, Array.getElem_setIfInBounds, Ne.symm e] using this
theorem RelT.mono {m m' : Mu} (hle : m.le m') {n : Nat} {st : St} {a : Array Value} (h : RelT m n st a) : RelT m' n st a := ⟨h.1, fun i hi => (h.2 i hi).mono hle⟩
theorem Dfr.put {H0 : List (Nat × Obj)} {m : Mu} {a : Act} (h : Dfr H0 m a) (d : Option Tmp) (v : Value) : Dfr H0 m (a.put d v) := by
  cases d <;> exact h
end Go.Du
namespace Go.Du
open Go
theorem RelV.lit_inv {m : Mu} {x v : Value} (h : RelV m (.lit x) v) : v = x := by cases h; rfl
def isAggD : TypeDesc → Bool
  | .struct _ | .array _ _ => true
  | _ => false
def tInfo (P : Program) (t : TypeId) : Option (Bool × Nat) :=
  match P.underlying t, P.info? t with
  | some d, some i => some (isAggD d, i.size)
  | _, _ => none
theorem tInfo_spec {P : Program} {t : TypeId} {ag : Bool} {sz : Nat} (h : tInfo P t = some (ag, sz)) :
    ∃ d i, P.underlying t = some d ∧ P.info? t = some i ∧ isAggD d = ag ∧ i.size = sz := by
  unfold tInfo at h
  split at h
  · rename_i d i hd hi
    simp only [Option.some.injEq, Prod.mk.injEq] at h
    exact ⟨d, i, hd, hi, h.1, h.2⟩
  · cases h
theorem run_isAgg {P : Program} {t : TypeId} {d : TypeDesc} (hd : P.underlying t = some d) (w : World) : (isAgg t).run P w = .ok (isAggD d) w := by
  unfold isAgg
  simp only [Sem.run_bind, run_underlying hd, Result.andThen_ok]
  cases d <;> rfl
theorem run_sizeOf' {P : Program} {t : TypeId} {i : TypeInfo} (hi : P.info? t = some i) (w : World) : (sizeOf t).run P w = .ok i.size w := by
  simp [sizeOf, typeInfo, hi]
def ldc (ag : Bool) (sz : Nat) (cs : List AV) (off : Nat) : Option AV :=
  match ag with
  | true => if off + sz ≤ cs.length then some (.agg ((cs.drop off).take sz)) else none
  | false => cs[off]?
def ldv (ag : Bool) (sz : Nat) (p : AV) (S : Store) : Option AV :=
  match p with
  | .ptr t i off => match S t with
    | some (.row _ _ elems) => (elems[i]?).bind fun cs => ldc ag sz cs off
    | _ => none
  | .fptr cs off => ldc ag sz cs off
  | _ => none
theorem run_load_cell {P : Program} {w : World} {a : Addr} {v : Value} (h : w.cell? a = some v) : (load a).run P w = .ok v w := by simp [h]
theorem run_loadVar_cells {P : Program} {w : World} {t : TypeId} {ag : Bool} {sz : Nat} (ht : tInfo P t = some (ag, sz)) (b o : Nat) (cs : List AV) (off : Nat) (f : Nat → Value) {x : AV} {m : Mu}
    (hc : ∀ j, j < cs.length → w.cell? ⟨b, o + j, none⟩ = some (f j)) (h1 : ∀ j, j < cs.length → (f j).oneCell' = true) (hr : ∀ j (h : j < cs.length), RelV m cs[j] (f j)) (hx : ldc ag sz cs off = some x) :
    ∃ u, (loadVar t ⟨b, o + off, none⟩).run P w = .ok u w ∧ RelV m x u := by
  obtain ⟨d, i, hd, hi, rfl, rfl⟩ := tInfo_spec ht
  unfold ldc at hx
  split at hx
  · rename_i hag
    split at hx
    · rename_i hle
      simp only [Option.some.injEq] at hx
      subst hx
      refine ⟨.agg (((List.range i.size).map fun j => f (off + j)).toArray), ?_, ?_⟩
      · simp only [loadVar, Sem.run_bind, run_isAgg hd, Result.andThen_ok, hag, if_true, run_sizeOf' hi]
        rw [run_loadCells w ⟨b, o + off, none⟩ i.size (fun j => f (off + j)) (fun j hj => by rw [Addr.add_lit, Nat.add_assoc]; exact hc _ (by omega))]
        rfl
      · refine .agg (by simp; omega) (fun j hj => ?_) (fun j hj => ?_)
        · simp only [List.length_take, List.length_drop] at hj
          have : j < i.size := by omega
          simpa [Array.getD, this] using h1 (off + j) (by omega)
        · simp only [List.length_take, List.length_drop] at hj
          have hj' : j < i.size := by omega
          have := hr (off + j) (by omega)
          simpa [Array.getD, hj'] using this
    · cases hx
  · rename_i hag
    obtain ⟨hlt, rfl⟩ := List.getElem?_eq_some_iff.1 hx
    refine ⟨f off, ?_, hr off hlt⟩
    simp only [loadVar, Sem.run_bind, run_isAgg hd, Result.andThen_ok, hag]
    exact run_load_cell (hc off hlt)
theorem cell_of_block {w : World} {b j : Nat} {cur : Array Value} {e : TypeId} {fr : Nat × Nat} (h : w.heap[b]? = some (.cells cur e fr)) : w.cell? ⟨b, j, none⟩ = cur[j]? := by
  simp [World.cell?, h]
theorem getD_of_some {α : Type} {a : Array α} {i : Nat} {v d : α} (h : a[i]? = some v) : a.getD i d = v := by
  obtain ⟨hlt, rfl⟩ := Array.getElem?_eq_some_iff.1 h
  simp [Array.getD, hlt]
theorem Rel.rowCells {m : Mu} {S : Store} {w : World} (h : Rel m S w) {t : Nat} {L : Loc} (hL : m.loc t = some L) {ty sz : Nat} {elems : List (List AV)} (hS : S t = some (.row ty sz elems)) :
    ∃ cur, w.heap[L.b]? = some (.cells cur ty (0, 0)) ∧ L.sz = sz ∧ RowOk m ty sz L.cap elems cur := by
  obtain ⟨_, _, ob, hb, ho⟩ := h.owned t _ L hS hL
  cases ho with
  | row hs hrow => exact ⟨_, hb, hs, hrow⟩
theorem mul_lt_of {i n sz j c : Nat} (hi : i < n) (hj : j < sz) (hn : n ≤ c) : i * sz + j < c * sz :=
  calc i * sz + j < i * sz + sz := by omega
    _ = (i + 1) * sz := by rw [Nat.add_mul]; omega
    _ ≤ c * sz := Nat.mul_le_mul_right _ (by omega)
theorem RowOk.cell {m : Mu} {ty sz cap : Nat} {elems : List (List AV)} {cur : Array Value} (h : RowOk m ty sz cap elems cur) {i : Nat} (hi : i < elems.length) {j : Nat} (hj : j < elems[i].length) :
    ∃ v, cur[i * sz + j]? = some v ∧ v.oneCell' = true ∧ RelV m elems[i][j] v := by
  have hsz : elems[i].length = sz := h.len _ (List.getElem_mem hi)
  have hlt : i * sz + j < cur.size := by
    rw [h.size]; exact mul_lt_of hi (by omega) h.le
  have hv : cur[i * sz + j]? = some cur[i * sz + j] := Array.getElem?_eq_getElem hlt
  refine ⟨cur[i * sz + j], hv, h.one _ _ hv, ?_⟩
  have := h.rel i hi j hj
  rwa [getD_of_some hv] at this
theorem ldv_ok {P : Program} {m : Mu} {S : Store} {w : World} (h : Rel m S w) {t : TypeId} {ag : Bool} {sz : Nat} (ht : tInfo P t = some (ag, sz)) {p x : AV} {v : Value} (hv : RelV m p v) (hx : ldv ag sz p S = some x) :
    ∃ u, (Instr.loadAt t v).run P w = .ok u w ∧ RelV m x u := by
  unfold ldv at hx
  split at hx
  · rename_i t' i off
    split at hx
    · rename_i ty esz elems hS
      obtain ⟨cs, hcs, hx⟩ := Option.bind_eq_some_iff.1 hx
      obtain ⟨hi, rfl⟩ := List.getElem?_eq_some_iff.1 hcs
      cases hv with
      | ptr hL =>
        rename_i L
        obtain ⟨cur, hb, hs, hrow⟩ := h.rowCells hL hS
        have hcell : ∀ j (hj : j < elems[i].length), ∃ v, cur[i * L.sz + j]? = some v ∧ v.oneCell' = true ∧ RelV m elems[i][j] v := fun j hj => by rw [hs]; exact hrow.cell hi hj
        have := run_loadVar_cells (w := w) ht L.b (i * L.sz) elems[i] off (fun j => cur.getD (i * L.sz + j) undef)
          (fun j hj => by obtain ⟨v, hv, _⟩ := hcell j hj; rw [cell_of_block hb, hv, getD_of_some hv]) (fun j hj => by obtain ⟨v, hv, h1, _⟩ := hcell j hj; rw [getD_of_some hv]; exact h1)
          (fun j hj => by obtain ⟨v, hv, _, h2⟩ := hcell j hj; rw [getD_of_some hv]; exact h2) hx
        simpa [Instr.loadAt, Instr.sureAddr] using this
    · cases hx
  · rename_i cs off
    cases hv with
    | fptr hz f hc h1 hr =>
      rename_i b o cur e fr
      have := run_loadVar_cells (w := w) ht b o cs off f (fun j hj => by rw [cell_of_block (h.z _ _ hz)]; exact hc j hj) h1 hr hx
      simpa [Instr.loadAt, Instr.sureAddr] using this
  · cases hx
def biInt (op : BinOp) (k : IntKind) (a b : Int) : Option Value :=
  match op with
  | .add => some (.int k (k.wrap (a + b)))
  | .sub => some (.int k (k.wrap (a - b)))
  | .mul => some (.int k (k.wrap (a * b)))
  | .quo => if b = 0 then none else some (.int k (k.wrap (a.tdiv b)))
  | .rem => if b = 0 then none else some (.int k (a.tmod b))
  | .and => some (.int k (k.wrap (BitVec.ofInt k.bits a &&& BitVec.ofInt k.bits b).toNat))
  | .or => some (.int k (k.wrap (BitVec.ofInt k.bits a ||| BitVec.ofInt k.bits b).toNat))
  | .xor => some (.int k (k.wrap (BitVec.ofInt k.bits a ^^^ BitVec.ofInt k.bits b).toNat))
  | .andNot => some (.int k (k.wrap (BitVec.ofInt k.bits a &&& ~~~BitVec.ofInt k.bits b).toNat))
  | .eql => some (.bool (a == b))
  | .neq => some (.bool (a != b))
  | .lss => some (.bool (decide (a < b)))
  | .leq => some (.bool (decide (a ≤ b)))
  | .gtr => some (.bool (decide (a > b)))
  | .geq => some (.bool (decide (a ≥ b)))
  | _ => none
def biShift (op : BinOp) (k : IntKind) (a b : Int) : Option Value :=
  if b < 0 then none else
  match op with
  | .shl => some (.int k (k.wrap (a * 2 ^ (min b.toNat k.bits))))
  | .shr => some (.int k (a.fdiv (2 ^ (min b.toNat k.bits))))
  | _ => none
def biStr (op : BinOp) (a b : ByteArray) : Option Value :=
  match op with
  | .add => if ((a.size + b.size : Nat) : Int) > 9223372036854775807 then none else some (.string (a ++ b))
  | .eql => some (.bool (a.toList == b.toList))
  | .neq => some (.bool (!(a.toList == b.toList)))
  | .lss => some (.bool (Op.bytesLess a.toList b.toList))
  | .leq => some (.bool (Op.bytesLess a.toList b.toList || a.toList == b.toList))
  | .gtr => some (.bool (!(Op.bytesLess a.toList b.toList || a.toList == b.toList)))
  | .geq => some (.bool (!(Op.bytesLess a.toList b.toList)))
  | _ => none
def isShift : BinOp → Bool
  | .shl | .shr => true
  | _ => false
def biv (op : BinOp) (x y : Value) : Option Value :=
  match x, y with
  | .int k a, .int k' b => if isShift op then biShift op k a b else if k = k' then biInt op k a b else none
  | .string a, .string b => biStr op a b
  | _, _ => none
theorem run_biInt {P : Program} {w : World} {op : BinOp} {k : IntKind} {a b : Int} {v : Value} (h : biInt op k a b = some v) (t : TypeId) :
    (binOp op t (.int k a) (.int k b)).run P w = .ok v w := by
  cases op <;> simp only [biInt, Option.some.injEq, reduceCtorEq] at h <;>
    first
    | (subst h; simp [binOp, Op.intArith, Op.intBits, Op.intCmp]; done)
    | (split at h; (· cases h); (· rename_i hb; simp only [Option.some.injEq] at h; subst h; simp [binOp, Op.intDiv, hb]))
theorem run_biShift {P : Program} {w : World} {op : BinOp} {k k' : IntKind} {a b : Int} {v : Value} (h : biShift op k a b = some v) (t : TypeId) :
    (binOp op t (.int k a) (.int k' b)).run P w = .ok v w := by
  unfold biShift at h
  split at h
  · cases h
  · rename_i hb
    cases op <;> simp only [Option.some.injEq, reduceCtorEq] at h <;> (subst h; simp [binOp, Op.shift, hb])
theorem run_biStr {P : Program} {w : World} {op : BinOp} {a b : ByteArray} {v : Value} (h : biStr op a b = some v) (t : TypeId) :
    (binOp op t (.string a) (.string b)).run P w = .ok v w := by
  cases op <;> simp only [biStr, Option.some.injEq, reduceCtorEq] at h <;>
    first
    | (subst h; simp [binOp, Op.stringOp]; done)
    | (split at h; (· cases h); (· rename_i hb; simp only [Option.some.injEq] at h; subst h
                                   have hb' : ¬ (((a.size + b.size : Nat) : Int) > IntKind.i64.max) := hb
                                   simp only [binOp, Op.stringOp]; rw [if_neg hb']; rfl))
theorem biv_one {op : BinOp} {x y v : Value} (h : biv op x y = some v) : v.oneCell' = true := by
  unfold biv at h
  split at h
  · split at h
    · unfold biShift at h; split at h
      · cases h
      · cases op <;> simp only [Option.some.injEq, reduceCtorEq] at h <;> (subst h; rfl)
    · split at h
      · cases op <;> simp only [biInt, Option.some.injEq, reduceCtorEq] at h <;> first | (subst h; rfl) | (split at h <;> first | (cases h; done) | (simp only [Option.some.injEq] at h; subst h; rfl))
      · cases h
  · cases op <;> simp only [biStr, Option.some.injEq, reduceCtorEq] at h <;> first | (subst h; rfl) | (split at h <;> first | (cases h; done) | (simp only [Option.some.injEq] at h; subst h; rfl))
  · cases h
theorem run_biv {P : Program} {w : World} {op : BinOp} {x y v : Value} (h : biv op x y = some v) (t : TypeId) : (binOp op t x y).run P w = .ok v w := by
  unfold biv at h
  split at h
  · rename_i k a k' b
    split at h
    · exact run_biShift h t
    · split at h
      · rename_i hk; subst hk; exact run_biInt h t
      · cases h
  · exact run_biStr h t
  · cases h
theorem run_eqGuard_lit {P : Program} {w : World} (op : BinOp) (t : TypeId) (x y : Operand) (a b : Value) (ha : ∀ cs, a ≠ .agg cs) (hn : a ≠ .nilIface) : (eqGuard op t x y a b).run P w = .ok () w := by
  unfold eqGuard
  cases op <;> cases a <;> first | rfl | (exact absurd rfl hn) | (exact absurd rfl (ha _))
end Go.Du
namespace Go.Du
open Go
inductive CK where
  | i | s | b
  deriving DecidableEq
def ckOf : Value → Option CK
  | .int _ _ => some .i
  | .string _ => some .s
  | .bool _ => some .b
  | _ => none
def litEq : Value → Value → Option Bool
  | .int k a, .int k' b => if k = k' then some (a == b) else none
  | .string a, .string b => some (a.toList == b.toList)
  | .bool a, .bool b => some (a == b)
  | _, _ => none
def sEq : List Value → List Value → Option Bool
  | [], [] => some true
  | x :: xs, y :: ys => match litEq x y, sEq xs ys with
    | some a, some b => some (a && b)
    | _, _ => none
  | _, _ => none
def ckFs (P : Program) (g : TypeId → Option (List CK)) : List Field → Nat → Option (List CK)
  | [], _ => some []
  | f :: fs, off =>
    if f.name = "_" ∨ f.offset ≠ off then none else
    match g f.type with
    | some ks => if (P.info? f.type).map (·.size) = some ks.length then (ckFs P g fs (off + ks.length)).map (ks ++ ·) else none
    | none => none
def ckT (P : Program) : Nat → TypeId → Option (List CK)
  | 0, _ => none
  | d + 1, t => match P.underlying t with
    | some (.int _) => some [.i]
    | some .string => some [.s]
    | some .bool => some [.b]
    | some (.struct fs) => if P.stoodInHeld t then none else ckFs P (ckT P d) fs.toList 0
    | _ => none
theorem sEq_split {a b c d : List Value} {r : Bool} (hl : a.length = c.length) (h : sEq (a ++ b) (c ++ d) = some r) : ∃ p q, sEq a c = some p ∧ sEq b d = some q ∧ r = (p && q) := by
  induction a generalizing c r with
  | nil => cases c with
    | nil => exact ⟨true, r, rfl, h, by simp⟩
    | cons _ _ => simp at hl
  | cons x a ih => cases c with
    | nil => simp at hl
    | cons y c =>
      simp only [sEq, List.cons_append] at h ⊢
      split at h
      · rename_i u v hu hv
        simp only [Option.some.injEq] at h
        obtain ⟨p, q, h1, h2, h3⟩ := ih (by simpa using hl) hv
        refine ⟨u && p, q, by rw [hu, h1], h2, ?_⟩
        rw [← h, h3, Bool.and_assoc]
      · cases h
def wrapT (P : Program) (t : TypeId) (cs : List Value) : Value :=
  match P.underlying t with
  | some (.struct _) => .agg cs.toArray
  | _ => cs.headD undef
theorem run_part_wrap {P : Program} {w : World} {t : TypeId} {i : TypeInfo} {d : Nat} {ks : List CK} (hk : ckT P d t = some ks) (hi : P.info? t = some i) (hs : i.size = ks.length) (xs : Array Value) (off : Nat) (hle : off + ks.length ≤ xs.size) :
    (part t xs off).run P w = .ok (wrapT P t ((xs.toList.drop off).take ks.length)) w := by
  cases d with
  | zero => simp [ckT] at hk
  | succ d =>
    simp only [ckT] at hk
    unfold part wrapT
    split at hk
    all_goals first | (cases hk; done) | skip
    all_goals rename_i hu
    all_goals simp only [Sem.run_bind, run_isAgg hu, Result.andThen_ok, isAggD, hu, Bool.false_eq_true, if_false, if_true]
    case h_4 =>
      simp only [run_sizeOf' hi, Result.andThen_ok, Sem.run_pure, Sem.run_bind]
      congr 2
      apply Array.ext'
      simp [hs]
    all_goals
      simp only [Option.some.injEq] at hk; subst hk
      simp only [List.length_singleton] at hle ⊢
      have hlt : off < xs.size := by omega
      rw [Array.getElem?_eq_getElem hlt]
      have h1 : xs.toList.drop off = xs[off] :: xs.toList.drop (off + 1) := by
        rw [List.drop_eq_getElem_cons (by simpa using hlt)]; simp
      rw [h1]
      rfl
theorem run_eqFields_plain {P : Program} {w : World} {d : Nat} (ih : ∀ t ks (xs ys : List Value) r, ckT P d t = some ks → xs.length = ks.length → ys.length = ks.length → xs.map ckOf = ks.map some → ys.map ckOf = ks.map some → sEq xs ys = some r →
      (Op.equalIn d t (wrapT P t xs) (wrapT P t ys)).run P w = .ok r w) :
    ∀ (fs : List Field) (off : Nat) (ks : List CK) (xs ys : Array Value) (r : Bool), ckFs P (ckT P d) fs off = some ks → off + ks.length = xs.size → xs.size = ys.size →
      (xs.toList.drop off).map ckOf = ks.map some → (ys.toList.drop off).map ckOf = ks.map some → sEq (xs.toList.drop off) (ys.toList.drop off) = some r → (Op.eqFields d xs ys fs).run P w = .ok r w
  | [], off, ks, xs, ys, r, hk, hl, hl2, h1, h2, h => by
    simp only [ckFs, Option.some.injEq] at hk
    subst hk
    simp only [List.length_nil, Nat.add_zero] at hl
    have e1 : xs.toList.drop off = [] := List.drop_eq_nil_of_le (by simp; omega)
    have e2 : ys.toList.drop off = [] := List.drop_eq_nil_of_le (by simp; omega)
    rw [e1, e2] at h
    simp only [sEq, Option.some.injEq] at h
    subst h
    rfl
  | f :: fs, off, ks, xs, ys, r, hk, hl, hl2, h1, h2, h => by
    simp only [ckFs] at hk
    split at hk
    · cases hk
    · rename_i hno
      have hname : f.name ≠ "_" := fun e => hno (.inl e)
      have hoff : f.offset = off := Classical.byContradiction fun e => hno (.inr e)
      split at hk
      · rename_i ks1 hks1
        split at hk
        · rename_i hsz
          obtain ⟨ks2, hks2, rfl⟩ := Option.map_eq_some_iff.1 hk
          obtain ⟨i, hi, hs⟩ := Option.map_eq_some_iff.1 hsz
          simp only [List.length_append] at hl
          have sx : xs.toList.drop off = (xs.toList.drop off).take ks1.length ++ xs.toList.drop (off + ks1.length) := by
            rw [← List.drop_drop]; exact (List.take_append_drop _ _).symm
          have sy : ys.toList.drop off = (ys.toList.drop off).take ks1.length ++ ys.toList.drop (off + ks1.length) := by
            rw [← List.drop_drop]; exact (List.take_append_drop _ _).symm
          have lx : ((xs.toList.drop off).take ks1.length).length = ks1.length := by simp; omega
          have ly : ((ys.toList.drop off).take ks1.length).length = ks1.length := by simp; omega
          rw [sx, List.map_append, List.map_append] at h1
          rw [sy, List.map_append, List.map_append] at h2
          obtain ⟨a1, a2⟩ := List.append_inj h1 (by simp only [List.length_map]; exact lx)
          obtain ⟨b1, b2⟩ := List.append_inj h2 (by simp only [List.length_map]; exact ly)
          rw [sx, sy] at h
          obtain ⟨p, q, e1, e2, rfl⟩ := sEq_split (by rw [lx, ly]) h
          have hp := run_part_wrap (P := P) (w := w) hks1 hi hs xs off (by omega)
          have hq := run_part_wrap (P := P) (w := w) hks1 hi hs ys off (by omega)
          have he := ih f.type ks1 _ _ p hks1 lx ly a1 b1 e1
          have hr := run_eqFields_plain ih fs (off + ks1.length) ks2 xs ys q hks2 (by omega) hl2 a2 b2 e2
          simp only [Op.eqFields, if_pos hname, Sem.run_bind, hoff, hp, hq, Result.andThen_ok, he]
          cases p
          · simp
          · simpa using hr
        · cases hk
      · cases hk
theorem run_equalIn_plain {P : Program} {w : World} : ∀ (d : Nat) (t : TypeId) (ks : List CK) (xs ys : List Value) (r : Bool), ckT P d t = some ks → xs.length = ks.length → ys.length = ks.length →
    xs.map ckOf = ks.map some → ys.map ckOf = ks.map some → sEq xs ys = some r → (Op.equalIn d t (wrapT P t xs) (wrapT P t ys)).run P w = .ok r w
  | 0, _, _, _, _, _, h, _, _, _, _, _ => by simp [ckT] at h
  | d + 1, t, ks, xs, ys, r, h, hx, hy, kx, ky, he => by
    have h0 := h
    simp only [ckT] at h
    split at h
    case h_5 => cases h
    case h_4 fs hu =>
      split at h
      · cases h
      · rename_i hst
        have hf : P.fieldsOf t = fs := by simp [Program.fieldsOf, hu]
        simp only [wrapT, hu]
        rw [run_equalIn_struct (P := P) w d t _ _ (by rw [hf]; exact hu) (by simpa using hst), hf]
        exact run_eqFields_plain (fun t ks xs ys r => run_equalIn_plain d t ks xs ys r) fs.toList 0 ks _ _ r h (by simp [hx]) (by simp [hx, hy]) (by simpa using kx) (by simpa using ky) (by simpa using he)
    all_goals
      rename_i hu
      simp only [Option.some.injEq] at h
      subst h
      match xs, ys, hx, hy with
      | [x], [y], _, _ =>
        simp only [List.map_cons, List.map_nil, List.cons.injEq, and_true] at kx ky
        simp only [wrapT, hu, List.headD_cons]
        cases x <;> simp only [ckOf, reduceCtorEq, Option.some.injEq] at kx
        cases y <;> simp only [ckOf, reduceCtorEq, Option.some.injEq] at ky
        simp only [sEq, litEq] at he
        first
        | (split at he
           · rename_i p q hp hq
             split at hp
             · rename_i hk
               simp only [Option.some.injEq] at hp hq he
               subst hk hp hq
               rw [Bool.and_true] at he
               subst he
               exact run_equalIn_int w d t _ _ _ _ hu
             · cases hp
           · cases he)
        | (simp only [Option.some.injEq, Bool.and_true] at he
           subst he
           exact run_equalIn_string w d t _ _ hu)
        | (simp only [Option.some.injEq, Bool.and_true] at he
           subst he
           exact run_equalIn_bool' w d t _ _ hu)
end Go.Du
namespace Go.Du
open Go
def rdS (x : AV) (S : Store) : Option (List (List AV)) :=
  match x with
  | .svals l => some l
  | .sref t off len => match S t with
    | some (.row _ _ elems) => if off + len ≤ elems.length then some ((elems.drop off).take len) else none
    | some (.rowF _ _ elems) => if off + len ≤ elems.length then some ((elems.drop off).take len) else none
    | _ => none
  | .lit (.slice none 0 0) => some []
  | .s0 => some []
  | _ => none
structure SliceAt (m : Mu) (w : World) (l : List (List AV)) (a : Option Addr) (sz : Nat) : Prop where
  len : ∀ x ∈ l, x.length = sz
  cell : ∀ i (hi : i < l.length) j (hj : j < l[i].length), ∃ ad u, a = some ad ∧ w.cell? (ad.add (i * sz + j)) = some u ∧ u.oneCell' = true ∧ RelV m l[i][j] u
theorem rdS_ok {m : Mu} {S : Store} {w : World} (h : Rel m S w) {x : AV} {v : Value} {l : List (List AV)} (hv : RelV m x v) (hx : rdS x S = some l) :
    ∃ a c sz, v = .slice a l.length c ∧ SliceAt m w l a sz := by
  unfold rdS at hx
  split at hx
  · simp only [Option.some.injEq] at hx
    subst hx
    cases hv with
    | sempty a c => exact ⟨a, c, 0, rfl, by simp, fun i hi => absurd hi (Nat.not_lt_zero _)⟩
    | svals hz hl f hc h1 hr hcap =>
      rename_i b o sz c cur e fr
      refine ⟨_, _, sz, rfl, hl, fun i hi j hj => ?_⟩
      have hj' : j < sz := by rw [← hl _ (List.getElem_mem hi)]; exact hj
      refine ⟨_, f i j, rfl, ?_, h1 i j hi hj', hr i hi j hj⟩
      rw [Addr.add_lit, cell_of_block (h.z _ _ hz), ← Nat.add_assoc]
      exact hc i j hi hj'
  · rename_i t off len
    split at hx
    · rename_i ty sz elems hS
      split at hx
      · rename_i hle
        simp only [Option.some.injEq] at hx
        subst hx
        cases hv with
        | sref hL hc =>
          rename_i L
          obtain ⟨cur, hb, hs, hrow⟩ := h.rowCells hL hS
          have hll : ((elems.drop off).take len).length = len := by simp; omega
          refine ⟨_, _, sz, by rw [hll], fun y hy => hrow.len y (List.mem_of_mem_drop (List.mem_of_mem_take hy)), fun i hi j hj => ?_⟩
          rw [hll] at hi
          have hi' : off + i < elems.length := by omega
          have he : ((elems.drop off).take len)[i]'(by rw [hll]; exact hi) = elems[off + i] := by simp
          have hj' : j < elems[off + i].length := by rw [← he]; exact hj
          obtain ⟨u, hu, h1, h2⟩ := hrow.cell hi' hj'
          refine ⟨_, u, rfl, ?_, h1, ?_⟩
          · rw [Addr.add_lit, cell_of_block hb, ← hu, hs]; congr 1; rw [Nat.add_mul, Nat.add_assoc]
          · simpa using h2
      · cases hx
    · rename_i ty sz elems hS
      split at hx
      · rename_i hle
        simp only [Option.some.injEq] at hx
        subst hx
        cases hv with
        | sref hL hc =>
          rename_i L
          obtain ⟨_, _, ob, hb, ho⟩ := h.owned t _ L hS hL
          obtain ⟨cur, rfl, hs, hrow⟩ : ∃ cur, ob = .cells cur ty (0, 0) ∧ L.sz = sz ∧ RowOk m ty sz L.cap elems cur := by
            cases ho with
            | rowF hs hc hr => exact ⟨_, rfl, hs, hr⟩
          have hll : ((elems.drop off).take len).length = len := by simp; omega
          refine ⟨_, _, sz, by rw [hll], fun y hy => hrow.len y (List.mem_of_mem_drop (List.mem_of_mem_take hy)), fun i hi j hj => ?_⟩
          rw [hll] at hi
          have hi' : off + i < elems.length := by omega
          have he : ((elems.drop off).take len)[i]'(by rw [hll]; exact hi) = elems[off + i] := by simp
          have hj' : j < elems[off + i].length := by rw [← he]; exact hj
          obtain ⟨u, hu, h1, h2⟩ := hrow.cell hi' hj'
          refine ⟨_, u, rfl, ?_, h1, ?_⟩
          · rw [Addr.add_lit, cell_of_block hb, ← hu, hs]; congr 1; rw [Nat.add_mul, Nat.add_assoc]
          · simpa using h2
      · cases hx
    · cases hx
  · simp only [Option.some.injEq] at hx
    subst hx
    have := hv.lit_inv
    subst this
    exact ⟨none, 0, 0, rfl, by simp, fun i hi => absurd hi (Nat.not_lt_zero _)⟩
  · simp only [Option.some.injEq] at hx
    subst hx
    cases hv with
    | s0 ad => exact ⟨ad, 0, 0, rfl, by simp, fun i hi => absurd hi (Nat.not_lt_zero _)⟩
  · cases hx
def fld (P : Program) (s : TypeId) (f : Nat) : Option Nat :=
  match P.underlying s with
  | some (.struct fs) => match fs[f]? with
    | some fd => match P.info? fd.type with
      | some i => if i.size = 0 then none else some fd.offset
      | none => none
    | none => none
  | _ => none
def padd (p : AV) (n : Nat) : Option AV :=
  match p with
  | .ptr t i off => some (.ptr t i (off + n))
  | .fptr cs off => some (.fptr cs (off + n))
  | _ => none
theorem padd_ok {m : Mu} {p x : AV} {n : Nat} {v : Value} (hv : RelV m p v) (hx : padd p n = some x) : ∃ b o, v = .pointer (some ⟨b, o, none⟩) ∧ RelV m x (.pointer (some ⟨b, o + n, none⟩)) := by
  unfold padd at hx
  split at hx
  · simp only [Option.some.injEq] at hx; subst hx
    cases hv with
    | ptr hL => exact ⟨_, _, rfl, by rw [Nat.add_assoc]; exact .ptr hL⟩
  · simp only [Option.some.injEq] at hx; subst hx
    cases hv with
    | fptr hz f hc h1 hr => exact ⟨_, _, rfl, by rw [Nat.add_assoc]; exact .fptr hz f hc h1 hr⟩
  · cases hx
theorem fieldAt_ok {P : Program} {m : Mu} {w : World} {s : TypeId} {f n : Nat} (hf : fld P s f = some n) {p x : AV} {v : Value} (hv : RelV m p v) (hx : padd p n = some x) :
    ∃ u, (Instr.fieldAt s v f).run P w = .ok u w ∧ RelV m x u := by
  unfold fld at hf
  split at hf
  · rename_i fs hu
    split at hf
    · rename_i fd hfd
      split at hf
      · rename_i i hi
        split at hf
        · cases hf
        · rename_i h0
          simp only [Option.some.injEq] at hf
          subst hf
          obtain ⟨b, o, rfl, hr⟩ := padd_ok hv hx
          refine ⟨_, ?_, hr⟩
          simp [Instr.fieldAt, run_underlying hu, hfd, Instr.sureAddr, fieldPlace, run_sizeOf' hi, h0, Addr.add_lit]
      · cases hf
    · cases hf
  · cases hf
def aix (sz : Nat) (x : AV) (i : Int) (S : Store) : Option AV :=
  match x with
  | .svals l => if 0 ≤ i then (match l[i.toNat]? with | some c => if c.length = sz then some (.fptr c 0) else none | none => none) else none
  | .sref t off len => if 0 ≤ i ∧ i < len then (match S t with | some (.row _ sz' _) => if sz' = sz then some (.ptr t (off + i.toNat) 0) else none | _ => none) else none
  | _ => none
theorem aix_ok {P : Program} {m : Mu} {S : Store} {w : World} (h : Rel m S w) {t e : TypeId} {inf : TypeInfo} (ht : P.underlying t = some (.slice e)) (he : P.info? e = some inf) {x y : AV} {i : Int} {k : IntKind} {v : Value}
    (hv : RelV m x v) (hx : aix inf.size x i S = some y) : ∃ u, (Instr.indexAt t v (.int k i)).run P w = .ok u w ∧ RelV m y u := by
  unfold aix at hx
  split at hx
  · rename_i l
    split at hx
    · rename_i h0
      split at hx
      · rename_i c hc
        obtain ⟨hlt, rfl⟩ := List.getElem?_eq_some_iff.1 hc
        split at hx
        · rename_i hsz
          simp only [Option.some.injEq] at hx; subst hx
          cases hv with
          | sempty a c => simp at hlt
          | svals hz hl f hcc h1 hr hcap =>
            rename_i b o sz c cur e' fr
            have hs : sz = inf.size := by rw [← hsz]; exact (hl _ (List.getElem_mem hlt)).symm
            refine ⟨.pointer (some ⟨b, o + i.toNat * inf.size + 0, none⟩), ?_, ?_⟩
            · simp [Instr.indexAt, asIntOf, run_underlying ht, h0, show i < (l.length : Int) by omega, run_sizeOf' he, Addr.add_lit]
            · exact .fptr (hz) (fun j => f i.toNat j) (fun j hj => by rw [← hs]; exact hcc _ _ hlt (by omega)) (fun j hj => h1 _ _ hlt (by omega)) (fun j hj => hr _ hlt j hj)
        · cases hx
      · cases hx
    · cases hx
  · rename_i t' off len
    split at hx
    · rename_i h0
      split at hx
      · rename_i ty sz' elems hS
        split at hx
        · rename_i hsz
          simp only [Option.some.injEq] at hx; subst hx
          cases hv with
          | sref hL hc =>
            rename_i L
            obtain ⟨cur, hb, hs, hrow⟩ := h.rowCells hL hS
            refine ⟨.pointer (some ⟨L.b, (off + i.toNat) * L.sz + 0, none⟩), ?_, .ptr hL⟩
            simp [Instr.indexAt, asIntOf, run_underlying ht, h0.1, h0.2, run_sizeOf' he, Addr.add_lit, hs, hsz, Nat.add_mul]
        · cases hx
      · cases hx
    · cases hx
  · cases hx
def aixA (n sz : Nat) (x : AV) (i : Int) : Option AV := if 0 ≤ i ∧ i < n then padd x (i.toNat * sz) else none
theorem aixA_ok {P : Program} {m : Mu} {w : World} {t e : TypeId} {n : Nat} {inf : TypeInfo} (ht : P.underlying t = some (.array n e)) (he : P.info? e = some inf) {x y : AV} {i : Int} {k : IntKind} {v : Value}
    (hv : RelV m x v) (hx : aixA n inf.size x i = some y) : ∃ u, (Instr.indexAt t v (.int k i)).run P w = .ok u w ∧ RelV m y u := by
  unfold aixA at hx
  split at hx
  · rename_i h0
    obtain ⟨b, o, rfl, hr⟩ := padd_ok hv hx
    refine ⟨_, ?_, hr⟩
    simp [Instr.indexAt, asIntOf, run_underlying ht, Instr.sureAddr, h0.1, h0.2, run_sizeOf' he, Addr.add_lit]
  · cases hx
def bnd (d : Nat) : Option AV → Option Int
  | none => some d
  | some (.lit (.int _ i)) => some i
  | _ => none
def bnds (n : Nat) (lo hi mx : Option AV) : Option (Nat × Nat) :=
  match bnd 0 lo, bnd n hi with
  | some a, some b => if 0 ≤ a ∧ a ≤ b ∧ b ≤ n ∧ (mx = none ∨ (hi ≠ none ∧ bnd n mx = some b)) then some (a.toNat, b.toNat) else none
  | _, _ => none
def asl (x : AV) (lo hi mx : Option AV) : Option AV :=
  match x with
  | .svals l => (bnds l.length lo hi mx).map fun (a, b) => if mx.isSome = true ∧ a = b then .s0 else .svals ((l.drop a).take (b - a))
  | .sref t off len => match mx with
    | none => (bnds len lo hi none).map fun (a, b) => if a = 0 then .sref t off b else if a = b then .svals [] else .sref t (off + a) (b - a)
    | some _ => (bnds len lo hi mx).bind fun (a, b) => if a = b then some .s0 else none
  | .s0 => (bnds 0 lo hi mx).map fun _ => .s0
  | .lit (.slice none 0 0) => (bnds 0 lo hi mx).map fun _ => .lit (.slice none 0 0)
  | _ => none
def asStr (s : ByteArray) (lo hi : Option AV) : Option AV :=
  (bnds s.size lo hi none).map fun (a, b) => .lit (.string (s.extract a b))
def RelO (m : Mu) (x : Option AV) (v : Option Value) : Prop :=
  match x, v with
  | none, none => True
  | some x, some v => RelV m x v
  | _, _ => False
theorem bnd_ok {m : Mu} {x : Option AV} {v : Option Value} (hx : RelO m x v) {d : Nat} {i : Int} (h : bnd d x = some i) :
    (v = none ∧ i = d) ∨ ∃ k, v = some (.int k i) := by
  cases x with
  | none => cases v with
    | none => simp only [bnd, Option.some.injEq] at h; exact .inl ⟨rfl, h.symm⟩
    | some v => exact hx.elim
  | some x => cases v with
    | none => exact hx.elim
    | some v =>
      have hx' : RelV m x v := hx
      unfold bnd at h
      split at h
      · rename_i e; cases e
      · rename_i k j e
        simp only [Option.some.injEq] at e h
        subst e h
        have := hx'.lit_inv
        subst this
        exact .inr ⟨k, rfl⟩
      · cases h
theorem RelO.none_inv {m : Mu} {v : Option Value} (h : RelO m none v) : v = none := by
  cases v with
  | none => rfl
  | some v => exact h.elim
theorem sliceBounds_ok {P : Program} {m : Mu} {w : World} {isS : Bool} {len cap n : Nat} {lo hi mx : Option AV} {vl vh vm : Option Value} (hl : RelO m lo vl) (hh : RelO m hi vh) (hm : RelO m mx vm)
    (hlen : len = n) (hcap : n ≤ cap) {a b : Nat} (h : bnds n lo hi mx = some (a, b)) :
    ∃ mm, (Instr.sliceBounds isS len cap vl vh vm).run P w = .ok (a, b, mm) w ∧ a ≤ b ∧ b ≤ n ∧ b ≤ mm ∧ mm ≤ cap ∧ (mx = none → mm = cap) ∧ (mx.isSome = true → mm = b) := by
  subst hlen
  unfold bnds at h
  split at h
  · rename_i a' b' ha hb
    split at h
    · rename_i hc
      obtain ⟨h0, h1, h2, h3⟩ := hc
      simp only [Option.some.injEq, Prod.mk.injEq] at h
      obtain ⟨rfl, rfl⟩ := h
      have hla := bnd_ok hl ha
      have hhb := bnd_ok hh hb
      cases mx with
      | none =>
        have := hm.none_inv; subst this
        refine ⟨cap, ?_, by omega, by omega, by omega, Nat.le_refl _, fun _ => rfl, fun h => by cases h⟩
        rcases hla with ⟨rfl, e⟩ | ⟨k, rfl⟩ <;> rcases hhb with ⟨rfl, e'⟩ | ⟨k', rfl⟩
        · simp [Instr.sliceBounds, e, e']
        · simp [Instr.sliceBounds, e, run_sliceBound, show 0 ≤ b' by omega, show b' ≤ (cap : Int) by omega]
        · simp [Instr.sliceBounds, e', run_sliceBound, h0, show a' ≤ (len : Int) by omega]
        · simp [Instr.sliceBounds, run_sliceBound, h0, show 0 ≤ b' by omega, show b' ≤ (cap : Int) by omega, show a' ≤ max b' 0 by omega]
      | some mv =>
        rcases h3 with h3 | ⟨h3, h4⟩
        · cases h3
        · rcases bnd_ok hm h4 with ⟨rfl, _⟩ | ⟨km, rfl⟩
          · exact hm.elim
          · rcases hhb with ⟨rfl, e'⟩ | ⟨k', rfl⟩
            · cases hi with
              | none => exact absurd rfl h3
              | some _ => exact hh.elim
            · refine ⟨b'.toNat, ?_, by omega, by omega, Nat.le_refl _, by omega, (fun h => by cases h), fun _ => rfl⟩
              rcases hla with ⟨rfl, e⟩ | ⟨k, rfl⟩
              · simp [Instr.sliceBounds, e, run_sliceBound, show 0 ≤ b' by omega, show b' ≤ (cap : Int) by omega, show b' ≤ max b' 0 by omega]
              · simp [Instr.sliceBounds, run_sliceBound, h0, show 0 ≤ b' by omega, show b' ≤ (cap : Int) by omega, show b' ≤ max b' 0 by omega, show a' ≤ max b' 0 by omega]
    · cases h
  · cases h
theorem asl_ok {P : Program} {m : Mu} {S : Store} {w : World} (h : Rel m S w) {t e : TypeId} {inf : TypeInfo} (ht : P.underlying t = some (.slice e)) (he : P.info? e = some inf) {x y : AV} {v : Value} {lo hi mx : Option AV} {vl vh vm : Option Value}
    (hv : RelV m x v) (hl : RelO m lo vl) (hh : RelO m hi vh) (hm : RelO m mx vm)
    (hsz : ∀ l, x = .svals l → ∀ c ∈ l, c.length = inf.size) (hsr : ∀ t' off len, x = .sref t' off len → ∃ ty elems, S t' = some (.row ty inf.size elems)) (hx : asl x lo hi mx = some y) :
    ∃ u, (Instr.sliceAt t v vl vh vm).run P w = .ok u w ∧ RelV m y u := by
  have hel : P.elem t = e := by simp [Program.elem, ht]
  have ht' : P.underlying t = some (.slice (P.elem t)) := by rw [hel]; exact ht
  rw [run_sliceAt_slice w t v vl vh vm ht']
  unfold asl at hx
  split at hx
  · rename_i l
    obtain ⟨⟨a, b⟩, hb, hy⟩ := Option.map_eq_some_iff.1 hx
    subst hy
    have key : ∃ ad c, v = .slice ad l.length c ∧ l.length ≤ c := by
      cases hv with
      | sempty ad c => exact ⟨ad, c, rfl, Nat.zero_le _⟩
      | svals hz hll f hc h1 hr hcap => exact ⟨_, _, rfl, hcap⟩
    obtain ⟨ad, c, rfl, hcap⟩ := key
    obtain ⟨mm, hrun, g1, g2, g3, g4, _, g6⟩ := sliceBounds_ok (P := P) (w := w) (isS := true) hl hh hm rfl hcap hb
    refine ⟨sliced ad a b mm inf.size, ?_, ?_⟩
    · rw [run_slice_any w t ad l.length c ht', hrun]; simp [hel, run_sizeOf' he]
    · unfold sliced
      by_cases h00 : mx.isSome = true ∧ a = b
      · obtain ⟨h01, rfl⟩ := h00
        have := g6 h01
        subst this
        dsimp only
        rw [if_pos ⟨h01, rfl⟩]
        simp only [Nat.sub_self, if_true]; exact .s0 _
      dsimp only
      rw [if_neg h00]
      by_cases hab : a = b
      · subst hab; simp only [Nat.sub_self, List.take_zero]; exact .sempty _ _
      · have hne : ¬ mm = a := by omega
        rw [if_neg hne]
        cases hv with
        | sempty ad c => simp only [List.length_nil] at g2; omega
        | svals hz hll f hc h1 hr hcap' =>
          rename_i bb o sz cur e' fr
          have hlen : ((l.drop a).take (b - a)).length = b - a := by simp; omega
          have hs : sz = inf.size := by
            have hlt : a < l.length := by omega
            rw [← hsz l rfl _ (List.getElem_mem hlt)]; exact (hll _ (List.getElem_mem hlt)).symm
          subst hs
          have := RelV.svals (m := m) (l := (l.drop a).take (b - a)) (o := o + a * inf.size) (sz := inf.size) (c := mm - a) hz (fun y hy => hll y (List.mem_of_mem_drop (List.mem_of_mem_take hy)))
            (fun i j => f (a + i) j) (fun i j hi hj => by
              rw [hlen] at hi
              have := hc (a + i) j (by omega) hj
              rw [show o + a * inf.size + i * inf.size + j = o + (a + i) * inf.size + j by rw [Nat.add_mul]; omega]; exact this)
            (fun i j hi hj => h1 _ _ (by rw [hlen] at hi; omega) hj) (fun i hi j hj => by
              rw [hlen] at hi
              have hi' : a + i < l.length := by omega
              have e1 : ((l.drop a).take (b - a))[i]'(by rw [hlen]; exact hi) = l[a + i] := by simp
              have := hr (a + i) hi' j (by rw [← e1]; exact hj)
              simpa using this) (by rw [hlen]; omega)
          rw [hlen] at this
          simpa [Addr.add_lit] using this
  · rename_i t' off len
    split at hx
    · obtain ⟨⟨a, b⟩, hb, hy⟩ := Option.map_eq_some_iff.1 hx
      subst hy
      have hm' := hm.none_inv; subst hm'
      cases hv with
      | sref hL hc =>
        rename_i L
        obtain ⟨mm, hrun, g1, g2, g3, g4, g5⟩ := sliceBounds_ok (P := P) (w := w) (isS := true) (cap := L.cap - off) hl hh (m := m) (mx := none) (vm := none) trivial rfl (by omega) hb
        have hmm := g5.1 rfl
        subst hmm
        obtain ⟨ty, elems, hS⟩ := hsr _ _ _ rfl
        obtain ⟨cur, hbl, hs, hrow⟩ := h.rowCells hL hS
        refine ⟨sliced (some ⟨L.b, off * L.sz, none⟩) a b (L.cap - off) inf.size, ?_, ?_⟩
        · rw [run_slice_any w t _ len (L.cap - off) ht', hrun]; simp [hel, run_sizeOf' he]
        · unfold sliced
          dsimp only
          by_cases h0 : a = 0
          · subst h0
            rw [if_pos rfl]
            have := RelV.sref (off := off) (len := b) hL (by omega)
            by_cases hz : L.cap - off = 0
            · simpa [hz] using this
            · simpa [hz, Addr.add_lit] using this
          · rw [if_neg h0]
            by_cases hab : a = b
            · subst hab; rw [if_pos rfl]; simp only [Nat.sub_self]; exact .sempty _ _
            · rw [if_neg hab]
              have := RelV.sref (off := off + a) (len := b - a) hL (by omega)
              rw [if_neg (by omega)]
              simp only [Option.map_some, Addr.add_lit]
              rw [show off * L.sz + a * inf.size = (off + a) * L.sz by rw [hs, Nat.add_mul], show L.cap - off - a = L.cap - (off + a) by omega]
              exact this
    · obtain ⟨⟨a, b⟩, hb, hy⟩ := Option.bind_eq_some_iff.1 hx
      dsimp only at hy
      split at hy
      · rename_i hab
        subst hab
        simp only [Option.some.injEq] at hy; subst hy
        cases hv with
        | sref hL hc =>
          rename_i L
          obtain ⟨mm, hrun, g1, g2, g3, g4, _, g6⟩ := sliceBounds_ok (P := P) (w := w) (isS := true) (cap := L.cap - off) hl hh hm rfl (by omega) hb
          have := g6 rfl
          subst this
          refine ⟨sliced (some ⟨L.b, off * L.sz, none⟩) mm mm mm inf.size, ?_, ?_⟩
          · rw [run_slice_any w t _ len (L.cap - off) ht', hrun]; simp [hel, run_sizeOf' he]
          · unfold sliced; simp only [Nat.sub_self, if_true]; exact .s0 _
      · cases hy
  · obtain ⟨⟨a, b⟩, hb, hy⟩ := Option.map_eq_some_iff.1 hx
    subst hy
    cases hv with
    | s0 ad =>
      obtain ⟨mm, hrun, g1, g2, g3, g4, _⟩ := sliceBounds_ok (P := P) (w := w) (isS := true) (len := 0) (cap := 0) hl hh hm rfl (Nat.le_refl _) hb
      refine ⟨sliced ad a b mm inf.size, ?_, ?_⟩
      · rw [run_slice_any w t ad 0 0 ht', hrun]; simp [hel, run_sizeOf' he]
      · have e1 : a = 0 := by omega
        have e2 : b = 0 := by omega
        have e3 : mm = 0 := by omega
        subst e1 e2 e3
        simp only [sliced, Nat.sub_self, if_true]; exact .s0 _
  · obtain ⟨⟨a, b⟩, hb, hy⟩ := Option.map_eq_some_iff.1 hx
    subst hy
    have := hv.lit_inv; subst this
    obtain ⟨mm, hrun, g1, g2, g3, g4, _⟩ := sliceBounds_ok (P := P) (w := w) (isS := true) (len := 0) (cap := 0) hl hh hm rfl (Nat.le_refl _) hb
    refine ⟨sliced none a b mm inf.size, ?_, ?_⟩
    · rw [run_slice_any w t none 0 0 ht', hrun]; simp [hel, run_sizeOf' he]
    · have e1 : a = 0 := by omega
      have e2 : b = 0 := by omega
      have e3 : mm = 0 := by omega
      subst e1 e2 e3
      simp [sliced]; exact .lit _ rfl
  · cases hx
def bndsF (len lim : Nat) (lo hi : Option AV) : Option (Nat × Nat) :=
  match bnd 0 lo, bnd len hi with
  | some a, some b => if 0 ≤ a ∧ a ≤ b ∧ b ≤ lim then some (a.toNat, b.toNat) else none
  | _, _ => none
def aslF (lim t len : Nat) (lo hi mx : Option AV) : Option AV :=
  match mx with
  | none => (bndsF len lim lo hi).map fun (a, b) => if a = 0 then .sref t 0 b else if a = b then .svals [] else .sref t a (b - a)
  | some _ => none
theorem aslF_ok {P : Program} {m : Mu} {S : Store} {w : World} (h : Rel m S w) {t e : TypeId} {inf : TypeInfo} (ht : P.underlying t = some (.slice e)) (he : P.info? e = some inf) {t' len : Nat} {y : AV} {v : Value} {lo hi mx : Option AV} {vl vh vm : Option Value}
    (hv : RelV m (.sref t' 0 len) v) (hl : RelO m lo vl) (hh : RelO m hi vh) (hm : RelO m mx vm) {ty : TypeId} {es : List (List AV)} (hS : S t' = some (.rowF ty inf.size es)) (hlen : len ≤ es.length) (hx : aslF es.length t' len lo hi mx = some y) :
    ∃ u, (Instr.sliceAt t v vl vh vm).run P w = .ok u w ∧ RelV m y u := by
  have hel : P.elem t = e := by simp [Program.elem, ht]
  have ht' : P.underlying t = some (.slice (P.elem t)) := by rw [hel]; exact ht
  rw [run_sliceAt_slice w t v vl vh vm ht']
  unfold aslF at hx
  split at hx
  · obtain ⟨⟨a, b⟩, hb, hy⟩ := Option.map_eq_some_iff.1 hx
    subst hy
    have := hm.none_inv; subst this
    cases hv with
    | sref hL hc =>
      rename_i L
      obtain ⟨_, _, ob, hbl, ho⟩ := h.owned t' _ L hS hL
      cases ho with
      | rowF hs hfull hrow =>
        have hrun : (Instr.sliceBounds true len (L.cap - 0) vl vh none).run P w = .ok (a, b, L.cap - 0) w ∧ a ≤ b ∧ b ≤ L.cap := by
          unfold bndsF at hb
          split at hb
          · rename_i a' b' ha hb'
            split at hb
            · rename_i hc'
              obtain ⟨h0, h1, h2⟩ := hc'
              simp only [Option.some.injEq, Prod.mk.injEq] at hb
              obtain ⟨rfl, rfl⟩ := hb
              refine ⟨?_, by omega, by omega⟩
              rcases bnd_ok hl ha with ⟨rfl, e⟩ | ⟨k, rfl⟩ <;> rcases bnd_ok hh hb' with ⟨rfl, e'⟩ | ⟨k', rfl⟩
              · simp [Instr.sliceBounds, e, e']
              · simp [Instr.sliceBounds, e, run_sliceBound, show 0 ≤ b' by omega, show b' ≤ (L.cap : Int) by omega]
              · simp [Instr.sliceBounds, e', run_sliceBound, h0, show a' ≤ (len : Int) by omega]
              · simp [Instr.sliceBounds, run_sliceBound, h0, show 0 ≤ b' by omega, show b' ≤ (L.cap : Int) by omega, show a' ≤ max b' 0 by omega]
            · cases hb
          · cases hb
        obtain ⟨hrun, g1, g2⟩ := hrun
        refine ⟨sliced (some ⟨L.b, 0 * L.sz, none⟩) a b (L.cap - 0) inf.size, ?_, ?_⟩
        · rw [run_slice_any w t _ len (L.cap - 0) ht', hrun]; simp [hel, run_sizeOf' he]
        · unfold sliced
          dsimp only
          by_cases h0 : a = 0
          · subst h0
            rw [if_pos rfl]
            have := RelV.sref (off := 0) (len := b) hL (by omega)
            by_cases hz : L.cap - 0 = 0
            · simpa [hz] using this
            · simpa [hz, Addr.add_lit] using this
          · rw [if_neg h0]
            by_cases hab : a = b
            · subst hab; rw [if_pos rfl]; simp only [Nat.sub_self]; exact .sempty _ _
            · rw [if_neg hab]
              have := RelV.sref (off := a) (len := b - a) hL (by omega)
              rw [if_neg (by omega)]
              simp only [Option.map_some, Addr.add_lit]
              rw [show 0 * L.sz + a * inf.size = a * L.sz by rw [hs]; omega, show L.cap - 0 - a = L.cap - a by omega]
              exact this
  · cases hx
theorem asStr_ok {P : Program} {m : Mu} {w : World} {t : TypeId} (ht : P.underlying t = some .string) {s : ByteArray} {y : AV} {lo hi : Option AV} {vl vh : Option Value}
    (hl : RelO m lo vl) (hh : RelO m hi vh) (hx : asStr s lo hi = some y) : ∃ u, (Instr.sliceAt t (.string s) vl vh none).run P w = .ok u w ∧ RelV m y u := by
  rw [run_sliceAt_string w t _ vl vh none ht]
  obtain ⟨⟨a, b⟩, hb, hy⟩ := Option.map_eq_some_iff.1 hx
  subst hy
  obtain ⟨mm, hrun, g1, g2, g3, g4, _⟩ := sliceBounds_ok (P := P) (w := w) (m := m) (isS := false) (len := s.size) (cap := s.size) hl hh (mx := none) (vm := none) trivial rfl (Nat.le_refl _) hb
  exact ⟨_, by simp [Instr.slice, run_underlying ht, hrun], .lit _ rfl⟩
end Go.Du
namespace Go.Du
open Go
def lits : List AV → Option (List Value)
  | [] => some []
  | .lit v :: l => (lits l).map (v :: ·)
  | _ :: _ => none
inductive EqC where
  | bool | ptr | slice
  | struct (ks : List CK)
def eqK (P : Program) (t : TypeId) : Option EqC :=
  match P.underlying t with
  | some .bool => some .bool
  | some (.pointer e) => if (P.info? e).map (·.size) = some 0 then none else if (P.info? e).isSome then some .ptr else none
  | some (.slice _) => some .slice
  | some (.struct _) => if P.eqGuardType P.depth t then none else (ckT P 20 t).map .struct
  | _ => none
def aeq (c : EqC) (x y : AV) (S : Store) : Option Bool :=
  match c, x, y with
  | .bool, .lit (.bool a), .lit (.bool b) => some (a == b)
  | .ptr, .lit (.pointer none), .lit (.pointer none) => some true
  | .ptr, .ptr _ _ _, .lit (.pointer none) => some false
  | .ptr, .lit (.pointer none), .ptr _ _ _ => some false
  | .ptr, .fptr _ _, .lit (.pointer none) => some false
  | .ptr, .ptr t i o, .ptr t' i' o' => if t = t' then (if i = i' then some (o == o') else none) else (match S t, S t' with | some (.row _ _ _), some (.row _ _ _) => some false | _, _ => none)
  | .slice, .lit (.slice none 0 0), .lit (.slice none 0 0) => some true
  | .slice, .sref _ _ _, .lit (.slice none 0 0) => some false
  | .slice, .svals (_ :: _), .lit (.slice none 0 0) => some false
  | .struct ks, .agg xs, .agg ys => match lits xs, lits ys with
    | some a, some b => if a.map ckOf = ks.map some ∧ b.map ckOf = ks.map some then sEq a b else none
    | _, _ => none
  | _, _, _ => none
def abi (op : BinOp) (x y : AV) : Option AV :=
  match x, y with
  | .lit a, .lit b => (biv op a b).map .lit
  | _, _ => none
def aeqv (neg : Bool) (c : EqC) (x y : AV) (S : Store) : Option AV := (aeq c x y S).map fun b => .lit (.bool (if neg then !b else b))
def aun (op : UnOp) (x : AV) : Option AV :=
  match op, x with
  | .not, .lit (.bool b) => some (.lit (.bool !b))
  | .neg, .lit (.int k n) => (biInt .sub k 0 n).map .lit
  | .xor, .lit (.int k n) => (biInt .xor k (if k.signed then -1 else k.max) n).map .lit
  | _, _ => none
def byteAV : List AV → Option UInt8
  | [.lit (.int .u8 n)] => some (UInt8.ofNat n.toNat)
  | _ => none
def bytesOf (l : List (List AV)) : Option (List UInt8) := l.mapM byteAV
def acvI (k : IntKind) (x : AV) : Option AV :=
  match x with
  | .lit (.int _ n) => some (.lit (.int k (k.wrap n)))
  | _ => none
def acvB (x : AV) (S : Store) : Option AV := ((rdS x S).bind bytesOf).map fun l => .lit (.string ⟨l.toArray⟩)
inductive CvC where
  | int (k : IntKind) | bytes
def cvK (P : Program) (src dst : TypeId) : Option CvC :=
  match P.underlying src, P.underlying dst with
  | some _, some (.int k) => some (.int k)
  | some (.slice e), some .string => match P.underlying e with
    | some (.int .u8) => some .bytes
    | _ => none
  | _, _ => none
def acv (c : CvC) (x : AV) (S : Store) : Option AV :=
  match c with
  | .int k => acvI k x
  | .bytes => acvB x S
inductive LnC where
  | str | slice | map
def lnK (P : Program) (t : TypeId) : Option LnC :=
  match P.underlying t with
  | some .string => some .str
  | some (.slice _) => some .slice
  | some (.map _ _) => some .map
  | _ => none
def aln (c : LnC) (x : AV) (S : Store) : Option AV :=
  match c, x with
  | .str, .lit (.string s) => some (.lit (.int .i64 s.size))
  | .slice, .svals l => some (.lit (.int .i64 l.length))
  | .slice, .sref _ _ n => some (.lit (.int .i64 n))
  | .slice, .lit (.slice none 0 0) => some (.lit (.int .i64 0))
  | .slice, .s0 => some (.lit (.int .i64 0))
  | .map, .mref t => match S t with
    | some (.map es) => some (.lit (.int .i64 es.length))
    | _ => none
  | _, _ => none
def amin (x y : AV) : Option AV :=
  match x, y with
  | .lit (.int k a), .lit (.int _ b) => some (.lit (.int k (if b < a then b else a)))
  | _, _ => none
def amax (x y : AV) : Option AV :=
  match x, y with
  | .lit (.int k a), .lit (.int _ b) => some (.lit (.int k (if b > a then b else a)))
  | _, _ => none
def fldI (P : Program) (s : TypeId) (f : Nat) : Option (Bool × Nat × Nat) :=
  match P.underlying s with
  | some (.struct fs) => match fs[f]? with
    | some fd => match tInfo P fd.type with
      | some (ag, sz) => some (ag, sz, fd.offset)
      | none => none
    | none => none
  | _ => none
def afl (ag : Bool) (sz off : Nat) (x : AV) : Option AV :=
  match x with
  | .agg cs => ldc ag sz cs off
  | _ => none
def aixS (x : AV) (i : AV) : Option AV :=
  match x, i with
  | .lit (.string s), .lit (.int _ n) => if 0 ≤ n ∧ n < s.size then some (.lit (.int .u8 (s.toList.getD n.toNat 0).toNat)) else none
  | _, _ => none
def aixV (ag : Bool) (sz n : Nat) (x : AV) (i : AV) : Option AV :=
  match x, i with
  | .agg cs, .lit (.int _ j) => if 0 ≤ j ∧ j < n then ldc ag sz cs (j.toNat * sz) else none
  | _, _ => none
def aext (x : AV) (i : Nat) : Option AV :=
  match x with
  | .tuple l => l[i]?
  | _ => none
def apick (c a b : AV) : Option AV :=
  match c with
  | .lit (.bool t) => some (if t then a else b)
  | _ => none
def anil (x : AV) : Option AV :=
  match x with
  | .ptr _ _ _ => some x
  | .fptr _ _ => some x
  | .func (.func _) _ _ => some x
  | .iface _ _ => some x
  | _ => none
def litInt : AV → Option Int
  | .lit (.int _ n) => some n
  | _ => none
def opV (P : Program) (o : Oper) (st : St) (S : Store) : Option AV :=
  match o.op with
  | .move x | .assign x => some (aev st x)
  | .pick c a b => apick (aev st c) (aev st a) (aev st b)
  | .load t a => match tInfo P t with
    | some (ag, sz) => ldv ag sz (aev st a) S
    | none => none
  | .nilCheck x => anil (aev st x)
  | .binOp op t x y _ => match op with
    | .eql => match eqK P t with
      | some c => aeqv false c (aev st x) (aev st y) S
      | none => abi .eql (aev st x) (aev st y)
    | .neq => match eqK P t with
      | some c => aeqv true c (aev st x) (aev st y) S
      | none => abi .neq (aev st x) (aev st y)
    | op => abi op (aev st x) (aev st y)
  | .unOp op _ x => aun op (aev st x)
  | .convert src dst x => match cvK P src dst with
    | some c => acv c (aev st x) S
    | none => none
  | .makeInterface t x => match P.underlying t with
    | some (.interface _) => none
    | some _ => some (.iface t (aev st x))
    | none => none
  | .makeFunc fn first cap => some (.func fn (first.toList.map (aev st)) (cap.toList.map (aev st)))
  | .slice t x lo hi mx => match P.underlying t with
    | some .string => match aev st x, mx with
      | .lit (.string s), none => asStr s (lo.map (aev st)) (hi.map (aev st))
      | _, _ => none
    | some (.slice e) => match P.info? e, aev st x with
      | some i, .svals l => if l.all (fun c => c.length == i.size) then asl (.svals l) (lo.map (aev st)) (hi.map (aev st)) (mx.map (aev st)) else none
      | some i, .sref t' off len => match S t' with
        | some (.row _ sz _) => if sz = i.size then asl (.sref t' off len) (lo.map (aev st)) (hi.map (aev st)) (mx.map (aev st)) else none
        | some (.rowF _ sz es) => if sz = i.size ∧ off = 0 ∧ len ≤ es.length then aslF es.length t' len (lo.map (aev st)) (hi.map (aev st)) (mx.map (aev st)) else none
        | _ => none
      | some _, .lit (.slice none 0 0) => asl (.lit (.slice none 0 0)) (lo.map (aev st)) (hi.map (aev st)) (mx.map (aev st))
      | some _, .s0 => asl .s0 (lo.map (aev st)) (hi.map (aev st)) (mx.map (aev st))
      | _, _ => none
    | _ => none
  | .fieldAddr s x f => match fld P s f with
    | some n => padd (aev st x) n
    | none => none
  | .field s x f => match fldI P s f with
    | some (ag, sz, off) => afl ag sz off (aev st x)
    | none => none
  | .indexAddr t x ix => match P.underlying t with
    | some (.slice e) => match P.info? e, litInt (aev st ix) with
      | some i, some n => aix i.size (aev st x) n S
      | _, _ => none
    | some (.array n e) => match P.info? e, litInt (aev st ix) with
      | some i, some j => aixA n i.size (aev st x) j
      | _, _ => none
    | _ => none
  | .index t x ix => match P.underlying t with
    | some .string => aixS (aev st x) (aev st ix)
    | some (.array n e) => match tInfo P e with
      | some (ag, sz) => aixV ag sz n (aev st x) (aev st ix)
      | none => none
    | _ => none
  | .extract t i => aext (aev st t) i
  | .call { callee := .builtin .len, args, argTypes } => match argTypes[0]?, args[0]? with
    | some t, some x => match lnK P t with
      | some c => aln c (aev st x) S
      | none => none
    | _, _ => none
  | .call { callee := .builtin .min, args, .. } => match args.toList with
    | [x, y] => amin (aev st x) (aev st y)
    | _ => none
  | .call { callee := .builtin .max, args, .. } => match args.toList with
    | [x, y] => amax (aev st x) (aev st y)
    | _ => none
  | _ => none
def opdsOk (n : Nat) (o : Oper) : Bool := o.op.operands.all (opdOk n)
theorem lits_rel {m : Mu} : ∀ {l : List AV} {vs : List Value} {a : List Value}, lits l = some vs → l.length = a.length → (∀ i (h : i < l.length), RelV m l[i] (a.getD i undef)) → a = vs
  | [], vs, a, h, hl, _ => by
    simp only [lits, Option.some.injEq] at h; subst h
    exact List.eq_nil_of_length_eq_zero hl.symm
  | x :: l, vs, a, h, hl, hr => by
    cases x <;> simp only [lits, reduceCtorEq] at h
    obtain ⟨vs', h', rfl⟩ := Option.map_eq_some_iff.1 h
    cases a with
    | nil => simp at hl
    | cons b a =>
      have h0 := hr 0 (by simp)
      simp only [List.getElem_cons_zero, List.getD_cons_zero] at h0
      have := h0.lit_inv
      subst this
      have ih := lits_rel (a := a) h' (by simpa using hl) (fun i hi => by
        have := hr (i + 1) (by simp; omega)
        simpa using this)
      rw [ih]
theorem agg_lits {m : Mu} {cs : List AV} {v : Value} {vs : List Value} (h : RelV m (.agg cs) v) (hl : lits cs = some vs) : v = .agg vs.toArray := by
  cases h with
  | agg hlen h1 r =>
    rename_i cs'
    have := lits_rel (a := cs'.toList) hl (by simpa using hlen) (fun i hi => by
      have := r i hi
      simpa [Array.getD, List.getD, hlen ▸ hi] using this)
    rw [← this]
theorem wrapT_struct {P : Program} {t : TypeId} {fs : Array Field} (h : P.underlying t = some (.struct fs)) (l : List Value) : wrapT P t l = .agg l.toArray := by simp [wrapT, h]
theorem run_sameAddr_other {P : Program} {m : Mu} {S : Store} {w : World} (h : Rel m S w) {t t' : Nat} {L L' : Loc} (hL : m.loc t = some L) (hL' : m.loc t' = some L') (hne : t ≠ t')
    {ty ty' sz sz' : Nat} {e e' : List (List AV)} (hS : S t = some (.row ty sz e)) (hS' : S t' = some (.row ty' sz' e')) (o o' : Nat) : (sameAddr ⟨L.b, o, none⟩ ⟨L'.b, o', none⟩).run P w = .ok false w := by
  have hb : L.b ≠ L'.b := fun e => hne (h.inj t t' L L' (by rw [hS]; simp) (by rw [hS']; simp) hL hL' e)
  obtain ⟨cur, hc, _⟩ := h.rowCells hL hS
  obtain ⟨cur', hc', _⟩ := h.rowCells hL' hS'
  simp [sameAddr, hb, World.frozen?, hc, hc', noView, viewAt, World.shape?, mayBeOne, stringish]
section
variable {P : Program} {w : World} {t : TypeId} {d : Nat}
theorem eq_ptr_nil {e : TypeId} (hu : P.underlying t = some (.pointer e)) (b : Option Addr) : (Op.equalIn (d + 1) t (.pointer none) (.pointer b)).run P w = .ok b.isNone w := by
  simp [Op.equalIn, run_underlying hu]
theorem eq_ptr_nil' {e : TypeId} (hu : P.underlying t = some (.pointer e)) (a : Addr) : (Op.equalIn (d + 1) t (.pointer (some a)) (.pointer none)).run P w = .ok false w := by
  simp [Op.equalIn, run_underlying hu]
theorem eq_ptr {e : TypeId} {i : TypeInfo} (hu : P.underlying t = some (.pointer e)) (hi : P.info? e = some i) (h0 : i.size ≠ 0) (a b : Addr) : (Op.equalIn (d + 1) t (.pointer (some a)) (.pointer (some b))).run P w = (sameAddr a b).run P w := by
  simp [Op.equalIn, run_underlying hu, run_sizeOf' hi, h0]
theorem eq_slice_nil {e : TypeId} (hu : P.underlying t = some (.slice e)) (b : Option Addr) (n c n' c' : Nat) : (Op.equalIn (d + 1) t (.slice none n c) (.slice b n' c')).run P w = .ok b.isNone w := by
  simp [Op.equalIn, run_underlying hu]
theorem eq_slice_nil' {e : TypeId} (hu : P.underlying t = some (.slice e)) (a : Addr) (n c n' c' : Nat) : (Op.equalIn (d + 1) t (.slice (some a) n c) (.slice none n' c')).run P w = .ok false w := by
  simp [Op.equalIn, run_underlying hu]
end
theorem equal_eq (t : TypeId) (v u : Value) : Op.equal t v u = Op.equalIn (9999 + 1) t v u := rfl
theorem aeq_ok {P : Program} {m : Mu} {S : Store} {w : World} (h : Rel m S w) {t : TypeId} {c : EqC} (hc : eqK P t = some c) {x y : AV} {v u : Value} (hx : RelV m x v) (hy : RelV m y u) {r : Bool} (he : aeq c x y S = some r) :
    (Op.equal t v u).run P w = .ok r w ∧ (∀ xo yo op, (eqGuard op t xo yo v u).run P w = .ok () w) ∧ (∀ op, op = .eql ∨ op = .neq → binOp op t v u = (match op with | .eql => do pure (.bool (← Op.equal t v u)) | _ => do pure (.bool (!(← Op.equal t v u))))) := by
  unfold eqK at hc
  have bin : ∀ {v u : Value}, (∀ k n, v ≠ .int k n) → (∀ s, v ≠ .string s) → (∀ k b, v ≠ .float k b) → (∀ k a b, v ≠ .complex k a b) →
      ∀ op, op = .eql ∨ op = .neq → binOp op t v u = (match op with | .eql => do pure (.bool (← Op.equal t v u)) | _ => do pure (.bool (!(← Op.equal t v u)))) := by
    intro v u h1 h2 h3 h4 op ho
    rcases ho with rfl | rfl <;> cases v <;> first | (exact absurd rfl (h1 _ _)) | (exact absurd rfl (h2 _)) | (exact absurd rfl (h3 _ _)) | (exact absurd rfl (h4 _ _ _)) | rfl | (cases u <;> rfl)
  split at hc
  ·
    rename_i hu
    simp only [Option.some.injEq] at hc; subst hc
    unfold aeq at he
    split at he <;> try (first | (cases he; done) | (rename_i hcc; cases hcc; done))
    simp only [Option.some.injEq] at he; subst he
    have e1 := hx.lit_inv; have e2 := hy.lit_inv; subst e1 e2
    exact ⟨run_equalIn_bool' w _ t _ _ hu, fun xo yo op => run_eqGuard_lit op t xo yo _ _ (by simp) (by simp), bin (by simp) (by simp) (by simp) (by simp)⟩
  ·
    rename_i e hu
    split at hc
    · cases hc
    · rename_i hz
      split at hc
      · rename_i hsome
        simp only [Option.some.injEq] at hc; subst hc
        obtain ⟨ie, hie⟩ := Option.isSome_iff_exists.1 hsome
        have hsz : ie.size ≠ 0 := fun e => hz (by rw [hie, Option.map_some, e])
        have isp : ∀ {x : AV} {v : Value}, RelV m x v → (x = .lit (.pointer none) ∨ (∃ t i o, x = .ptr t i o) ∨ ∃ cs o, x = .fptr cs o) → ∃ a, v = .pointer a := by
          intro x v hx hs
          rcases hs with rfl | ⟨t, i, o, rfl⟩ | ⟨cs, o, rfl⟩
          · exact ⟨_, hx.lit_inv⟩
          · cases hx; exact ⟨_, rfl⟩
          · cases hx; exact ⟨_, rfl⟩
        have fin : ∀ {v u : Value} {r : Bool}, (∃ a, v = .pointer a) → (∃ a, u = .pointer a) → (Op.equal t v u).run P w = .ok r w →
            (Op.equal t v u).run P w = .ok r w ∧ (∀ xo yo op, (eqGuard op t xo yo v u).run P w = .ok () w) ∧ (∀ op, op = .eql ∨ op = .neq → binOp op t v u = (match op with | .eql => do pure (.bool (← Op.equal t v u)) | _ => do pure (.bool (!(← Op.equal t v u))))) := by
          rintro v u r ⟨a, rfl⟩ ⟨b, rfl⟩ hr
          exact ⟨hr, fun xo yo op => run_eqGuard_lit op t xo yo _ _ (by simp) (by simp), bin (by simp) (by simp) (by simp) (by simp)⟩
        unfold aeq at he
        split at he <;> try (first | (cases he; done) | (rename_i hcc; cases hcc; done))
        · simp only [Option.some.injEq] at he; subst he
          refine fin (isp hx (.inl rfl)) (isp hy (.inl rfl)) ?_
          have e1 := hx.lit_inv; have e2 := hy.lit_inv; subst e1 e2
          exact eq_ptr_nil hu _
        · simp only [Option.some.injEq] at he; subst he
          refine fin (isp hx (.inr (.inl ⟨_, _, _, rfl⟩))) (isp hy (.inl rfl)) ?_
          have e2 := hy.lit_inv; subst e2
          cases hx
          exact eq_ptr_nil' hu _
        · simp only [Option.some.injEq] at he; subst he
          refine fin (isp hx (.inl rfl)) (isp hy (.inr (.inl ⟨_, _, _, rfl⟩))) ?_
          have e2 := hx.lit_inv; subst e2
          cases hy
          exact eq_ptr_nil hu _
        · simp only [Option.some.injEq] at he; subst he
          refine fin (isp hx (.inr (.inr ⟨_, _, rfl⟩))) (isp hy (.inl rfl)) ?_
          have e2 := hy.lit_inv; subst e2
          cases hx
          exact eq_ptr_nil' hu _
        · rename_i t1 i o t1' i' o' hcc
          refine fin (isp hx (.inr (.inl ⟨_, _, _, rfl⟩))) (isp hy (.inr (.inl ⟨_, _, _, rfl⟩))) ?_
          cases hx with
          | ptr hL1 =>
            cases hy with
            | ptr hL2 =>
              split at he
              · rename_i et
                subst et
                rw [hL1] at hL2
                simp only [Option.some.injEq] at hL2
                subst hL2
                split at he
                · rename_i ei
                  subst ei
                  simp only [Option.some.injEq] at he; subst he
                  rw [equal_eq, eq_ptr hu hie hsz]
                  simp only [sameAddr, beq_self_eq_true, if_true, Sem.run_pure]
                  congr 1
                  rw [Bool.eq_iff_iff]; simp
                · cases he
              · rename_i et
                split at he
                · rename_i h1 h2
                  simp only [Option.some.injEq] at he; subst he
                  rw [equal_eq, eq_ptr hu hie hsz]
                  exact run_sameAddr_other (P := P) h hL1 hL2 et h1 h2 _ _
                · cases he
      · cases hc
  ·
    rename_i e hu
    simp only [Option.some.injEq] at hc; subst hc
    unfold aeq at he
    split at he <;> try (first | (cases he; done) | (rename_i hcc; cases hcc; done))
    · simp only [Option.some.injEq] at he; subst he
      have e1 := hx.lit_inv; have e2 := hy.lit_inv; subst e1 e2
      exact ⟨eq_slice_nil hu _ _ _ _ _, fun xo yo op => run_eqGuard_lit op t xo yo _ _ (by simp) (by simp), bin (by simp) (by simp) (by simp) (by simp)⟩
    · simp only [Option.some.injEq] at he; subst he
      have e2 := hy.lit_inv; subst e2
      cases hx
      exact ⟨eq_slice_nil' hu _ _ _ _ _, fun xo yo op => run_eqGuard_lit op t xo yo _ _ (by simp) (by simp), bin (by simp) (by simp) (by simp) (by simp)⟩
    · simp only [Option.some.injEq] at he; subst he
      have e2 := hy.lit_inv; subst e2
      cases hx
      exact ⟨eq_slice_nil' hu _ _ _ _ _, fun xo yo op => run_eqGuard_lit op t xo yo _ _ (by simp) (by simp), bin (by simp) (by simp) (by simp) (by simp)⟩
  ·
    rename_i fs hu
    split at hc
    · cases hc
    · rename_i hg
      obtain ⟨ks, hks, rfl⟩ := Option.map_eq_some_iff.1 hc
      unfold aeq at he
      split at he <;> try (first | (cases he; done) | (rename_i hcc; cases hcc; done))
      rename_i hcc
      cases hcc
      split at he
      · rename_i a b ha hb
        split at he
        · rename_i hk
          have e1 := agg_lits hx ha
          have e2 := agg_lits hy hb
          subst e1 e2
          refine ⟨?_, fun xo yo op => run_eqGuard_agg w op t xo yo _ _ (by simpa using hg), bin (by simp) (by simp) (by simp) (by simp)⟩
          have l1 : a.length = ks.length := by have := congrArg List.length hk.1; simpa using this
          have l2 : b.length = ks.length := by have := congrArg List.length hk.2; simpa using this
          have key := run_equalIn_plain (P := P) (w := w) 20 t ks a b r hks l1 l2 hk.1 hk.2 he
          rw [wrapT_struct hu, wrapT_struct hu] at key
          have deep : ∀ (d : Nat) (t : TypeId) (ks : List CK), ckT P d t = some ks → ckT P (d + 1) t = some ks := by
            intro d
            induction d with
            | zero => intro t ks h; simp [ckT] at h
            | succ d ih =>
              intro t ks h
              have fsl : ∀ (l : List Field) (off : Nat) (ks : List CK), ckFs P (ckT P d) l off = some ks → ckFs P (ckT P (d + 1)) l off = some ks := by
                intro l
                induction l with
                | nil => intro off ks h; exact h
                | cons f l ihl =>
                  intro off ks h
                  simp only [ckFs] at h ⊢
                  split at h
                  · cases h
                  · rename_i hno
                    rw [if_neg hno]
                    split at h
                    · rename_i k1 hk1
                      rw [ih _ _ hk1]
                      dsimp only
                      split at h
                      · rename_i hz
                        rw [if_pos hz]
                        obtain ⟨k2, hk2, rfl⟩ := Option.map_eq_some_iff.1 h
                        rw [ihl _ _ hk2]; rfl
                      · cases h
                    · cases h
              rw [ckT] at h ⊢
              split at h
              · exact h
              · exact h
              · exact h
              · split at h
                · cases h
                · rename_i hst
                  rw [if_neg hst]; exact fsl _ _ _ h
              · cases h
          have deepN : ∀ n, ckT P (20 + n) t = some ks := by
            intro n; induction n with
            | zero => exact hks
            | succ n ih => exact deep _ _ _ ih
          have := run_equalIn_plain (P := P) (w := w) 10000 t ks a b r (deepN 9980) l1 l2 hk.1 hk.2 he
          rw [wrapT_struct hu, wrapT_struct hu] at this
          exact this
        · cases he
      · cases he
  · cases hc
end Go.Du
namespace Go.Du
open Go
def pureOk (P : Program) (m : Mu) (w : World) (ρ : Operand → Value) (o : Oper) (x : AV) : Prop :=
  ∃ v, (execOp ρ o).run P w = .ok (.value v) w ∧ RelV m x v
section
variable {P : Program} {m : Mu} {w : World} {S : Store}
theorem abi_ok {op : BinOp} {t : TypeId} {xo yo : Operand} {x y r : AV} {v u : Value} (hx : RelV m x v) (hy : RelV m y u) (h : abi op x y = some r) :
    ∃ z, ((do eqGuard op t xo yo v u; binOp op t v u : Sem Value)).run P w = .ok z w ∧ RelV m r z := by
  unfold abi at h
  split at h
  · rename_i a b
    obtain ⟨z, hz, rfl⟩ := Option.map_eq_some_iff.1 h
    have e1 := hx.lit_inv; have e2 := hy.lit_inv; subst e1 e2
    refine ⟨z, ?_, .lit z (biv_one hz)⟩
    have g : (eqGuard op t xo yo v u).run P w = .ok () w := by
      refine run_eqGuard_lit op t xo yo _ _ (fun cs e => ?_) (fun e => ?_) <;> (subst e; simp [biv] at hz)
    simp only [Sem.run_bind, g, Result.andThen_ok]
    exact run_biv hz t
  · cases h
theorem aeqv_ok (h : Rel m S w) {op : BinOp} (ho : op = .eql ∨ op = .neq) {t : TypeId} {c : EqC} (hc : eqK P t = some c) {xo yo : Operand} {x y r : AV} {v u : Value} (hx : RelV m x v) (hy : RelV m y u)
    (he : aeqv (match op with | .eql => false | _ => true) c x y S = some r) : ∃ z, ((do eqGuard op t xo yo v u; binOp op t v u : Sem Value)).run P w = .ok z w ∧ RelV m r z := by
  obtain ⟨b, hb, rfl⟩ := Option.map_eq_some_iff.1 he
  obtain ⟨g1, g2, g3⟩ := aeq_ok (P := P) h hc hx hy hb
  refine ⟨_, ?_, .lit _ rfl⟩
  simp only [Sem.run_bind, g2, Result.andThen_ok]
  rw [g3 op ho]
  rcases ho with rfl | rfl
  · simp [g1]
  · simp [g1]
theorem aun_ok {op : UnOp} {x r : AV} {v : Value} (hx : RelV m x v) (h : aun op x = some r) : ∃ z, (Op.unary op v).run P w = .ok z w ∧ RelV m r z := by
  unfold aun at h
  split at h
  · simp only [Option.some.injEq] at h; subst h
    have e := hx.lit_inv; subst e
    exact ⟨_, rfl, .lit _ rfl⟩
  · simp only [biInt, Option.map_some, Option.some.injEq] at h; subst h
    have e := hx.lit_inv; subst e
    exact ⟨_, by simp [Op.unary, Op.intArith], .lit _ rfl⟩
  · simp only [biInt, Option.map_some, Option.some.injEq] at h; subst h
    have e := hx.lit_inv; subst e
    exact ⟨_, by simp [Op.unary, Op.intBits], .lit _ rfl⟩
  · cases h
theorem mapM_bytes : ∀ {l : List (List AV)} {bs : List UInt8}, bytesOf l = some bs → l.length = bs.length ∧ ∀ i (hi : i < l.length), ∃ n : Int, l[i] = [.lit (.int .u8 n)] ∧ bs[i]? = some (UInt8.ofNat n.toNat)
  | [], bs, h => by simp [bytesOf] at h; subst h; simp
  | c :: l, bs, h => by
    simp only [bytesOf, List.mapM_cons] at h
    cases hb : byteAV c with
    | none => simp [hb] at h
    | some b =>
      cases hl : l.mapM byteAV with
      | none => simp [hb, hl] at h
      | some bs' =>
        simp only [hb, hl, Option.pure_def, Option.bind_eq_bind, Option.bind_some, Option.some.injEq] at h
        subst h
        obtain ⟨h1, h2⟩ := mapM_bytes (l := l) hl
        refine ⟨by simp [h1], fun i hi => ?_⟩
        cases i with
        | zero =>
          unfold byteAV at hb
          split at hb
          · rename_i n
            simp only [Option.some.injEq] at hb
            exact ⟨n, rfl, by simp [hb]⟩
          · cases hb
        | succ i => simpa using h2 i (by simpa using hi)
theorem acv_ok (h : Rel m S w) {src dst : TypeId} {c : CvC} (hc : cvK P src dst = some c) {x r : AV} {v : Value} (hx : RelV m x v) (he : acv c x S = some r) : ∃ z, (convert src dst v).run P w = .ok z w ∧ RelV m r z := by
  unfold cvK at hc
  split at hc
  · rename_i ds k hs hd
    simp only [Option.some.injEq] at hc; subst hc
    simp only [acv, acvI] at he
    split at he
    · rename_i k' n
      simp only [Option.some.injEq] at he; subst he
      have e := hx.lit_inv; subst e
      refine ⟨_, ?_, .lit _ rfl⟩
      simp [convert, run_underlying hs, run_underlying hd, Conv.intToInt]
    · cases he
  · rename_i e hs hd
    split at hc
    · rename_i he'
      simp only [Option.some.injEq] at hc; subst hc
      simp only [acv, acvB] at he
      obtain ⟨bs, hbs, rfl⟩ := Option.map_eq_some_iff.1 he
      obtain ⟨l, hl, hbs⟩ := Option.bind_eq_some_iff.1 hbs
      obtain ⟨a, c, sz, rfl, hat⟩ := rdS_ok h hx hl
      obtain ⟨hlen, hcell⟩ := mapM_bytes hbs
      cases a with
      | none =>
        have : l = [] := by
          cases l with
          | nil => rfl
          | cons c0 l0 =>
            obtain ⟨n, hn, _⟩ := hcell 0 (by simp)
            obtain ⟨ad, u, had, _⟩ := hat.cell 0 (by simp) 0 (by rw [hn]; simp)
            cases had
        subst this
        have : bs = [] := List.eq_nil_of_length_eq_zero (by simpa using hlen.symm)
        subst this
        refine ⟨_, ?_, .lit _ rfl⟩
        simp [convert, run_underlying hs, run_underlying hd, run_underlying he', Conv.bytesToString]; rfl
      | some ad =>
        by_cases hl0 : l = []
        · subst hl0
          have : bs = [] := List.eq_nil_of_length_eq_zero (by simpa using hlen.symm)
          subst this
          refine ⟨_, ?_, .lit _ rfl⟩
          rw [run_convert_bytes_string w src dst e _ _ _ hs he' hd, run_bytesToString w _ _ _ [] (by rfl)]
          rfl
        · have hsz : sz = 1 := by
            obtain ⟨c0, l0, rfl⟩ := List.exists_cons_of_ne_nil hl0
            obtain ⟨n, hn, _⟩ := hcell 0 (by simp)
            rw [← hat.len c0 (by simp)]
            simp only [List.getElem_cons_zero] at hn
            rw [hn]; rfl
          subst hsz
          have hns : ∃ ns : List Int, ns.length = l.length ∧ (∀ i (hi : i < l.length), w.cell? (ad.add i) = some (.int .u8 (ns.getD i 0))) ∧ bs = ns.map fun n => UInt8.ofNat n.toNat := by
            refine ⟨(List.range l.length).map fun i => match l[i]? with | some [AV.lit (Value.int .u8 n)] => n | _ => (0 : Int), by simp, fun i hi => ?_, ?_⟩
            · obtain ⟨n, hn, _⟩ := hcell i hi
              obtain ⟨ad', u, had, hu, _, hr⟩ := hat.cell i hi 0 (by rw [hn]; simp)
              cases had
              simp only [hn, List.getElem_cons_zero] at hr
              have e := hr.lit_inv; subst e
              simpa [List.getD, hi, hn] using hu
            · apply List.ext_getElem?
              intro i
              by_cases hi : i < l.length
              · obtain ⟨n, hn, hb⟩ := hcell i hi
                rw [hb]
                simp [hi, hn]
              · rw [List.getElem?_eq_none (by omega), List.getElem?_eq_none (by simp; omega)]
          obtain ⟨ns, hnl, hnc, rfl⟩ := hns
          have hload : (loadCells ad l.length).run P w = .ok (ns.map (Value.int .u8)).toArray w := by
            rw [← hnl]
            have := run_loadCells_list (P := P) w ad (ns.map (Value.int .u8)) (fun j v hj => by
              have hjl : j < ns.length := by
                rcases Nat.lt_or_ge j ns.length with h | h
                · exact h
                · simp [List.getElem?_eq_none (show (ns.map (Value.int .u8)).length ≤ j by simpa using h)] at hj
              rw [hnc j (by omega)]
              simp [List.getElem?_eq_getElem hjl] at hj
              subst hj
              simp [List.getD, List.getElem?_eq_getElem hjl])
            simpa using this
          refine ⟨_, ?_, .lit _ rfl⟩
          rw [run_convert_bytes_string w src dst e _ _ _ hs he' hd, run_bytesToString w _ _ _ ns hload, foldl_push_bytes]
          simp [ByteArray.empty, ByteArray.emptyWithCapacity]
          rfl
    · cases hc
  · cases hc
theorem aln_ok (h : Rel m S w) {t ty : TypeId} {c : LnC} (hc : lnK P t = some c) {x r : AV} {v : Value} (hx : RelV m x v) (he : aln c x S = some r) : ∃ z, (Builtin.len_ #[t] ty #[v]).run P w = .ok z w ∧ RelV m r z := by
  unfold lnK at hc
  split at hc <;> try (cases hc; done)
  · rename_i hu
    simp only [Option.some.injEq] at hc; subst hc
    unfold aln at he
    split at he <;> try (first | (cases he; done) | (rename_i hcc; cases hcc; done))
    simp only [Option.some.injEq] at he; subst he
    have e := hx.lit_inv; subst e
    exact ⟨_, run_len_string w t ty _ hu, .lit _ rfl⟩
  · rename_i e hu
    simp only [Option.some.injEq] at hc; subst hc
    unfold aln at he
    split at he <;> try (first | (cases he; done) | (rename_i hcc; cases hcc; done))
    · simp only [Option.some.injEq] at he; subst he
      cases hx with
      | sempty a c => exact ⟨_, by simp [Builtin.len_, run_underlying hu]; rfl, .lit _ rfl⟩
      | svals hz hl f hcc h1 hr hcap => exact ⟨_, by simp [Builtin.len_, run_underlying hu]; rfl, .lit _ rfl⟩
    · simp only [Option.some.injEq] at he; subst he
      cases hx with
      | sref hL hc => exact ⟨_, by simp [Builtin.len_, run_underlying hu]; rfl, .lit _ rfl⟩
    · simp only [Option.some.injEq] at he; subst he
      have e := hx.lit_inv; subst e
      exact ⟨_, by simp [Builtin.len_, run_underlying hu]; rfl, .lit _ rfl⟩
    · simp only [Option.some.injEq] at he; subst he
      cases hx with
      | s0 a => exact ⟨_, by simp [Builtin.len_, run_underlying hu]; rfl, .lit _ rfl⟩
  · rename_i k e hu
    simp only [Option.some.injEq] at hc; subst hc
    unfold aln at he
    split at he <;> try (first | (cases he; done) | (rename_i hcc; cases hcc; done))
    rename_i t' hcc
    split at he
    · rename_i es hS
      simp only [Option.some.injEq] at he; subst he
      cases hx with
      | mref hL =>
        obtain ⟨_, _, ob, hb, ho⟩ := h.owned t' _ _ hS hL
        cases ho with
        | map hl hbb hd hk =>
          refine ⟨_, ?_, .lit _ rfl⟩
          simp [Builtin.len_, run_underlying hu, getObj, Sem.run, hb, hl, goInt]
    · cases he
theorem part_ok {t : TypeId} {ag : Bool} {sz : Nat} (ht : tInfo P t = some (ag, sz)) {cs : List AV} {cs' : Array Value} (hl : cs.length = cs'.size) (h1 : ∀ j, j < cs.length → (cs'.getD j undef).oneCell' = true)
    (r : ∀ j (h : j < cs.length), RelV m cs[j] (cs'.getD j undef)) {off : Nat} {x : AV} (hx : ldc ag sz cs off = some x) : ∃ u, (part t cs' off).run P w = .ok u w ∧ RelV m x u := by
  obtain ⟨d, i, hd, hi, rfl, rfl⟩ := tInfo_spec ht
  unfold ldc at hx
  split at hx
  · rename_i hag
    split at hx
    · rename_i hle
      simp only [Option.some.injEq] at hx; subst hx
      refine ⟨.agg (cs'.extract off (off + i.size)), by simp [part, run_isAgg hd, hag, run_sizeOf' hi], ?_⟩
      refine .agg (by simp; omega) (fun j hj => ?_) (fun j hj => ?_)
      · simp only [List.length_take, List.length_drop] at hj
        have := h1 (off + j) (by omega)
        have hlt : off + j < cs'.size := by omega
        have hlt2 : j < i.size := by omega
        simp only [Array.getD, hlt, ↓reduceDIte] at this
        have hlt3 : j < min (off + i.size) cs'.size - off := by omega
        simpa [Array.getD, hlt3] using this
      · simp only [List.length_take, List.length_drop] at hj
        have := r (off + j) (by omega)
        have hlt : off + j < cs'.size := by omega
        simp only [Array.getD, hlt, ↓reduceDIte] at this
        have hlt3 : j < min (off + i.size) cs'.size - off := by omega
        simpa [Array.getD, hlt3] using this
    · cases hx
  · rename_i hag
    obtain ⟨hlt, rfl⟩ := List.getElem?_eq_some_iff.1 hx
    have hlt' : off < cs'.size := by omega
    refine ⟨cs'[off], by simp [part, run_isAgg hd, hag, hlt'], ?_⟩
    have := r off hlt
    simpa [Array.getD, hlt'] using this
theorem anil_ok {x r : AV} {v : Value} (hx : RelV m x v) (h : anil x = some r) (ρ : Operand → Value) (o : Oper) {xo : Operand} (ho : o.op = .nilCheck xo) (hv : ρ xo = v) : pureOk P m w ρ o r := by
  unfold anil at h
  split at h <;> try (cases h; done)
  all_goals
    simp only [Option.some.injEq] at h; subst h
    refine ⟨v, ?_, hx⟩
    simp only [execOp, ho, hv]
    cases hx
    rfl
theorem relO_map {n : Nat} {st : St} {a : Act} (ht : RelT m n st a.tmps) (x : Option Operand) (hx : ∀ y, x = some y → opdOk n y = true) : RelO m (x.map (aev st)) (x.map a.eval) := by
  cases x with
  | none => exact trivial
  | some y => exact relV_aev ht (hx y rfl)
theorem opV_ok (h : Rel m S w) {n : Nat} {st : St} {a : Act} (ht : RelT m n st a.tmps) {o : Oper} (hops : opdsOk n o = true) {x : AV} (hx : opV P o st S = some x) : pureOk P m w a.eval o x := by
  have hall : ∀ y ∈ o.op.operands.toList, opdOk n y = true := by
    intro y hy
    have := Array.all_eq_true'.1 hops y (by simpa using hy)
    exact this
  have rel : ∀ y, y ∈ o.op.operands.toList → RelV m (aev st y) (a.eval y) := fun y hy => relV_aev ht (hall y hy)
  unfold opV at hx
  split at hx
  case h_1 y ho =>
    simp only [Option.some.injEq] at hx; subst hx
    exact ⟨_, by simp [execOp, ho], rel y (by simp [ho, Op.operands])⟩
  case h_2 y ho =>
    simp only [Option.some.injEq] at hx; subst hx
    exact ⟨_, by simp [execOp, ho], rel y (by simp [ho, Op.operands])⟩
  case h_3 c y z ho =>
    unfold apick at hx
    split at hx
    · rename_i b hc
      simp only [Option.some.injEq] at hx; subst hx
      have hcv := (rel c (by simp [ho, Op.operands]))
      rw [hc] at hcv
      have e := hcv.lit_inv
      refine ⟨if b then a.eval y else a.eval z, by simp [execOp, ho, e, asBool], ?_⟩
      cases b
      · exact rel z (by simp [ho, Op.operands])
      · exact rel y (by simp [ho, Op.operands])
    · cases hx
  case h_4 t y ho =>
    split at hx
    · rename_i ag sz hti
      obtain ⟨u, hu, hr⟩ := ldv_ok h hti (rel y (by simp [ho, Op.operands])) hx
      exact ⟨u, by simp [execOp, ho, hu], hr⟩
    · cases hx
  case h_5 y ho => exact anil_ok (rel y (by simp [ho, Op.operands])) hx _ _ ho rfl
  case h_6 op t y z yt ho =>
    have ry := rel y (by simp [ho, Op.operands])
    have rz := rel z (by simp [ho, Op.operands])
    have fin : (∃ u, ((do eqGuard op t y z (a.eval y) (a.eval z); binOp op t (a.eval y) (a.eval z) : Sem Value)).run P w = .ok u w ∧ RelV m x u) → pureOk P m w a.eval o x := by
      rintro ⟨u, hu, hr⟩
      refine ⟨u, ?_, hr⟩
      simp only [execOp, ho]
      rw [Sem.run_bind, hu]; rfl
    split at hx
    · split at hx
      · rename_i c hc; exact fin (aeqv_ok h (.inl rfl) hc ry rz hx)
      · exact fin (abi_ok ry rz hx)
    · split at hx
      · rename_i c hc; exact fin (aeqv_ok h (.inr rfl) hc ry rz hx)
      · exact fin (abi_ok ry rz hx)
    · exact fin (abi_ok ry rz hx)
  case h_7 op t y ho =>
    obtain ⟨u, hu, hr⟩ := aun_ok (P := P) (w := w) (rel y (by simp [ho, Op.operands])) hx
    exact ⟨u, by simp [execOp, ho, hu], hr⟩
  case h_8 src dst y ho =>
    split at hx
    · rename_i c hc
      obtain ⟨u, hu, hr⟩ := acv_ok h hc (rel y (by simp [ho, Op.operands])) hx
      exact ⟨u, by simp [execOp, ho, hu], hr⟩
    · cases hx
  case h_9 t y ho =>
    split at hx
    · cases hx
    · rename_i d hd hu
      simp only [Option.some.injEq] at hx; subst hx
      refine ⟨_, ?_, .iface (rel y (by simp [ho, Op.operands]))⟩
      simp only [execOp, ho, Instr.makeInterface, Sem.run_bind, run_underlying hu, Result.andThen_ok]
      cases d <;> first | rfl | (exact absurd rfl (hd _))
    · cases hx
  case h_10 fn first cap ho =>
    simp only [Option.some.injEq] at hx; subst hx
    refine ⟨.func fn (first.map a.eval) (cap.map a.eval), by simp [execOp, ho, Instr.makeFunc], .func (by simp) (by simp) (fun j hj => ?_) (fun j hj => ?_)⟩
    · simp only [List.length_map, Array.length_toList] at hj
      have := rel first[j] (by simp [ho, Op.operands])
      simpa [Array.getD, hj] using this
    · simp only [List.length_map, Array.length_toList] at hj
      have := rel cap[j] (by simp [ho, Op.operands])
      simpa [Array.getD, hj] using this
  case h_11 t y lo hi mx ho =>
    have ry := rel y (by simp [ho, Op.operands])
    have rl := relO_map (m := m) ht lo (fun z hz => hall z (by subst hz; simp [ho, Op.operands]))
    have rh := relO_map (m := m) ht hi (fun z hz => hall z (by subst hz; simp [ho, Op.operands]))
    have rm := relO_map (m := m) ht mx (fun z hz => hall z (by subst hz; simp [ho, Op.operands]))
    have fin : (∃ u, (Instr.sliceAt t (a.eval y) (lo.map a.eval) (hi.map a.eval) (mx.map a.eval)).run P w = .ok u w ∧ RelV m x u) → pureOk P m w a.eval o x := by
      rintro ⟨u, hu, hr⟩
      exact ⟨u, by simp only [execOp, ho]; rw [Sem.run_bind, hu]; rfl, hr⟩
    split at hx
    · rename_i hu
      split at hx
      · rename_i s e1
        rw [e1] at ry
        have e := ry.lit_inv
        rw [e] at fin
        exact fin (asStr_ok (P := P) (w := w) hu rl rh hx)
      · cases hx
    · rename_i e hu
      split at hx
      · rename_i i l hi' e1
        split at hx
        · rename_i hall'
          rw [e1] at ry
          refine fin (asl_ok h hu hi' ry rl rh rm (fun l' hl c hc => ?_) (fun _ _ _ hc => by cases hc) hx)
          cases hl
          have := List.all_eq_true.1 hall' c hc
          simpa using this
        · cases hx
      · rename_i i t' off len hi' e1
        split at hx
        · rename_i ty sz elems hS
          split at hx
          · rename_i hsz
            rw [e1] at ry
            refine fin (asl_ok h hu hi' ry rl rh rm (fun _ hc => by cases hc) (fun _ _ _ hc => ?_) hx)
            cases hc
            exact ⟨ty, elems, by rw [hS, hsz]⟩
          · cases hx
        · rename_i ty sz elems hS
          split at hx
          · rename_i hsz
            obtain ⟨hsz, rfl, hle⟩ := hsz
            rw [e1] at ry
            exact fin (aslF_ok h hu hi' ry rl rh rm (by rw [hS, hsz]) hle hx)
          · cases hx
        · cases hx
      · rename_i i hi' e1
        rw [e1] at ry
        exact fin (asl_ok h hu hi' ry rl rh rm (fun _ hc => by cases hc) (fun _ _ _ hc => by cases hc) hx)
      · rename_i i hi' e1
        rw [e1] at ry
        exact fin (asl_ok h hu hi' ry rl rh rm (fun _ hc => by cases hc) (fun _ _ _ hc => by cases hc) hx)
      · cases hx
    · cases hx
  case h_12 s y f ho =>
    split at hx
    · rename_i k hk
      obtain ⟨u, hu, hr⟩ := fieldAt_ok (w := w) hk (rel y (by simp [ho, Op.operands])) hx
      exact ⟨u, by simp [execOp, ho, hu], hr⟩
    · cases hx
  case h_13 s y f ho =>
    have ry := rel y (by simp [ho, Op.operands])
    split at hx
    · rename_i ag sz off hf
      unfold fldI at hf
      split at hf
      · rename_i fs hu
        split at hf
        · rename_i fd hfd
          split at hf
          · rename_i ag' sz' hti
            simp only [Option.some.injEq, Prod.mk.injEq] at hf
            obtain ⟨rfl, rfl, rfl⟩ := hf
            unfold afl at hx
            split at hx
            · rename_i cs hcs
              rw [hcs] at ry
              generalize hv : a.eval y = v at ry
              cases ry with
              | agg hl h1 r =>
                rename_i cs'
                obtain ⟨u, hu2, hr2⟩ : ∃ u, (part fd.type cs' fd.offset).run P w = .ok u w ∧ RelV m x u := part_ok hti hl h1 r hx
                exact ⟨u, by simp [execOp, ho, hv, Instr.field, run_underlying hu, hfd, asAgg, hu2], hr2⟩
            · cases hx
          · cases hf
        · cases hf
      · cases hf
    · cases hx
  case h_14 t y ix ho =>
    have ry := rel y (by simp [ho, Op.operands])
    have ri := rel ix (by simp [ho, Op.operands])
    have lint : ∀ {k : Int}, litInt (aev st ix) = some k → ∃ kd, a.eval ix = .int kd k := by
      intro k hk
      unfold litInt at hk
      split at hk
      · rename_i kd k' e
        simp only [Option.some.injEq] at hk; subst hk
        rw [e] at ri
        exact ⟨kd, ri.lit_inv⟩
      · cases hk
    split at hx
    · rename_i e hu
      split at hx
      · rename_i i k hi hk
        obtain ⟨kd, hkd⟩ := lint hk
        obtain ⟨u, hu2, hr⟩ := aix_ok (k := kd) h hu hi ry hx
        exact ⟨u, by simp [execOp, ho, hkd, hu2], hr⟩
      · cases hx
    · rename_i n' e hu
      split at hx
      · rename_i i k hi hk
        obtain ⟨kd, hkd⟩ := lint hk
        obtain ⟨u, hu2, hr⟩ := aixA_ok (w := w) (k := kd) hu hi ry hx
        exact ⟨u, by simp [execOp, ho, hkd, hu2], hr⟩
      · cases hx
    · cases hx
  case h_15 t y ix ho =>
    have ry := rel y (by simp [ho, Op.operands])
    have ri := rel ix (by simp [ho, Op.operands])
    split at hx
    · rename_i hu
      unfold aixS at hx
      split at hx
      · rename_i s kd k e1 e2
        rw [e1] at ry; rw [e2] at ri
        have e3 := ry.lit_inv; have e4 := ri.lit_inv
        split at hx
        · rename_i hr
          simp only [Option.some.injEq] at hx; subst hx
          refine ⟨_, ?_, .lit _ rfl⟩
          simp only [execOp, ho, e3, e4, Sem.run_bind, run_index_string w t s kd k hu, dif_pos hr, Result.andThen_ok, Sem.run_pure]
          congr 4
          have hlt : k.toNat < s.size := by omega
          rw [ByteArray.toList_eq]
          have : k.toNat < s.data.toList.length := hlt
          simp only [List.getD, List.getElem?_eq_getElem this, Option.getD_some]
          rfl
        · cases hx
      · cases hx
    · rename_i n' e hu
      split at hx
      · rename_i ag sz hti
        unfold aixV at hx
        split at hx
        · rename_i cs kd k e1 e2
          rw [e1] at ry; rw [e2] at ri
          have e4 := ri.lit_inv
          split at hx
          · rename_i hr
            generalize hv : a.eval y = v at ry
            cases ry with
            | agg hl h1 r =>
              rename_i cs'
              obtain ⟨d, i, hd, hi, rfl, rfl⟩ := tInfo_spec hti
              obtain ⟨u, hu2, hr2⟩ : ∃ u, (part e cs' (k.toNat * i.size)).run P w = .ok u w ∧ RelV m x u := part_ok hti hl h1 r hx
              exact ⟨u, by simp [execOp, ho, hv, e4, Instr.index, asIntOf, run_underlying hu, hr.1, hr.2, run_sizeOf' hi, hu2], hr2⟩
          · cases hx
        · cases hx
      · cases hx
    · cases hx
  case h_16 y i ho =>
    have ry := rel y (by simp [ho, Op.operands])
    unfold aext at hx
    split at hx
    · rename_i l e1
      rw [e1] at ry
      generalize hv : a.eval y = v at ry
      obtain ⟨hlt, rfl⟩ := List.getElem?_eq_some_iff.1 hx
      cases ry with
      | tuple hl r =>
        rename_i cs'
        have h2 : i < cs'.size := by omega
        refine ⟨cs'[i], by simp [execOp, ho, hv, Instr.extract, h2], ?_⟩
        have := r i hlt
        simpa [Array.getD, h2] using this
    · cases hx
  case h_17 args argTypes ho =>
    split at hx
    · rename_i t y ht' hy
      split at hx
      · rename_i c hc
        have hya : y ∈ args.toList := by
          obtain ⟨hlt, rfl⟩ := Array.getElem?_eq_some_iff.1 hy
          simp
        have ry := rel y (by simp only [ho, Op.operands, Call.operands, Array.empty_append]; simpa using hya)
        obtain ⟨u, hu, hr⟩ := aln_ok (ty := o.type) h hc ry hx
        refine ⟨u, ?_, hr⟩
        have hlen : ∀ ty' , (Builtin.len_ argTypes ty' (args.map a.eval)).run P w = (Builtin.len_ #[t] ty' #[a.eval y]).run P w := by
          intro ty'
          simp only [Builtin.len_, ht', Array.getElem?_map, hy, Option.map_some]
          rfl
        simp only [execOp, ho, resolve, invoke, builtin, Sem.run_bind, Sem.run_pure, Result.andThen_ok, hlen, hu]
      · cases hx
    · cases hx
  case h_18 args argTypes ho =>
    split at hx
    · rename_i y z e1
      have ry := rel y (by simp only [ho, Op.operands, Call.operands, Array.empty_append]; rw [e1]; simp)
      have rz := rel z (by simp only [ho, Op.operands, Call.operands, Array.empty_append]; rw [e1]; simp)
      unfold amin at hx
      split at hx
      · rename_i k p k' q e2 e3
        rw [e2] at ry; rw [e3] at rz
        have e4 := ry.lit_inv; have e5 := rz.lit_inv
        simp only [Option.some.injEq] at hx; subst hx
        refine ⟨_, ?_, .lit _ rfl⟩
        simp [execOp, ho, resolve, invoke, builtin, Builtin.min_, Array.toList_map, e1, e4, e5, Builtin.min2]
      · cases hx
    · cases hx
  case h_19 args argTypes ho =>
    split at hx
    · rename_i y z e1
      have ry := rel y (by simp only [ho, Op.operands, Call.operands, Array.empty_append]; rw [e1]; simp)
      have rz := rel z (by simp only [ho, Op.operands, Call.operands, Array.empty_append]; rw [e1]; simp)
      unfold amax at hx
      split at hx
      · rename_i k p k' q e2 e3
        rw [e2] at ry; rw [e3] at rz
        have e4 := ry.lit_inv; have e5 := rz.lit_inv
        simp only [Option.some.injEq] at hx; subst hx
        refine ⟨_, ?_, .lit _ rfl⟩
        simp [execOp, ho, resolve, invoke, builtin, Builtin.max_, Array.toList_map, e1, e4, e5, Builtin.max2]
      · cases hx
    · cases hx
  case h_20 => cases hx
end
end Go.Du
namespace Go.Du
open Go
def cellsOf : AV → List AV
  | .agg cs => cs
  | x => [x]
def AV.one : AV → Bool
  | .poison | .agg _ | .tuple _ => false
  | _ => true
def okC : AV → Bool
  | .agg _ => true
  | x => x.one
theorem RelV.one {m : Mu} {x : AV} {v : Value} (h : RelV m x v) (h1 : x.one = true) : v.oneCell' = true := by
  cases h <;> first | rfl | assumption | (cases h1; done)
theorem cells_ok {m : Mu} {x : AV} {v : Value} (h : RelV m x v) (ho : okC x = true) :
    v.cells.size = (cellsOf x).length ∧ ∀ j (hj : j < (cellsOf x).length), RelV m (cellsOf x)[j] (v.cells.getD j undef) ∧ (v.cells.getD j undef).oneCell' = true := by
  cases h with
  | agg hl h1 r => exact ⟨hl.symm, fun j hj => ⟨r j hj, h1 j hj⟩⟩
  | poison _ => cases ho
  | tuple _ _ => cases ho
  | lit v hv =>
    have hc : v.cells = #[v] := by cases v <;> first | rfl | (cases hv; done)
    rw [hc]
    refine ⟨rfl, fun j hj => ?_⟩
    have : j = 0 := by simp only [cellsOf, List.length_singleton] at hj; omega
    subst this
    exact ⟨.lit v hv, hv⟩
  | ptr h => refine ⟨rfl, fun j hj => ?_⟩; obtain rfl : j = 0 := by { simp only [cellsOf, List.length_singleton] at hj; omega }; exact ⟨.ptr h, rfl⟩
  | fptr hz f hc h1 hr => refine ⟨rfl, fun j hj => ?_⟩; obtain rfl : j = 0 := by { simp only [cellsOf, List.length_singleton] at hj; omega }; exact ⟨.fptr hz f hc h1 hr, rfl⟩
  | sref h hc => refine ⟨rfl, fun j hj => ?_⟩; obtain rfl : j = 0 := by { simp only [cellsOf, List.length_singleton] at hj; omega }; exact ⟨.sref h hc, rfl⟩
  | sempty a c => refine ⟨rfl, fun j hj => ?_⟩; obtain rfl : j = 0 := by { simp only [cellsOf, List.length_singleton] at hj; omega }; exact ⟨.sempty a c, rfl⟩
  | s0 a => refine ⟨rfl, fun j hj => ?_⟩; obtain rfl : j = 0 := by { simp only [cellsOf, List.length_singleton] at hj; omega }; exact ⟨.s0 a, rfl⟩
  | svals hz hl f hc h1 hr hcap => refine ⟨rfl, fun j hj => ?_⟩; obtain rfl : j = 0 := by { simp only [cellsOf, List.length_singleton] at hj; omega }; exact ⟨.svals hz hl f hc h1 hr hcap, rfl⟩
  | mref h => refine ⟨rfl, fun j hj => ?_⟩; obtain rfl : j = 0 := by { simp only [cellsOf, List.length_singleton] at hj; omega }; exact ⟨.mref h, rfl⟩
  | itr h => refine ⟨rfl, fun j hj => ?_⟩; obtain rfl : j = 0 := by { simp only [cellsOf, List.length_singleton] at hj; omega }; exact ⟨.itr h, rfl⟩
  | func a b c d => refine ⟨rfl, fun j hj => ?_⟩; obtain rfl : j = 0 := by { simp only [cellsOf, List.length_singleton] at hj; omega }; exact ⟨.func a b c d, rfl⟩
  | yield h => refine ⟨rfl, fun j hj => ?_⟩; obtain rfl : j = 0 := by { simp only [cellsOf, List.length_singleton] at hj; omega }; exact ⟨.yield h, rfl⟩
  | iface h => refine ⟨rfl, fun j hj => ?_⟩; obtain rfl : j = 0 := by { simp only [cellsOf, List.length_singleton] at hj; omega }; exact ⟨.iface h, rfl⟩
inductive NewR where
  | own (o : AObj) (f : Nat → AV)
  | frz (x : AV)
def mkNew (fz : Bool) (t : TypeId) (cs : List AV) : NewR :=
  if fz then .frz (.fptr cs 0) else .own (.row t cs.length [cs]) fun u => .ptr u 0 0
def mkRow (fz : Bool) (e : TypeId) (sz : Nat) (l : List (List AV)) : NewR :=
  if fz then .frz (.svals l) else .own (.row e sz l) fun u => .sref u 0 l.length
def partsOk (sz : Nat) : Nat → List (Nat × AV) → Bool
  | _, [] => true
  | i, (j, x) :: l => j == i && okC x && (cellsOf x).length == sz && partsOk sz (i + 1) l
def bytesAV (s : ByteArray) : List (List AV) := s.toList.map fun b => [.lit (.int .u8 b.toNat)]
def isU8 : Option TypeDesc → Bool
  | some (.int .u8) => true
  | _ => false
def mkSl (e sz bytes : Nat) (zc : List AV) (l c : AV) : Option NewR :=
  match litInt l, litInt c with
  | some a, some b => if a = b ∧ 0 ≤ a ∧ a * bytes ≤ 140737488355328 ∧ a ≤ 9223372036854775807 then some (.own (.row e sz (List.replicate a.toNat zc)) fun u => .sref u 0 a.toNat) else none
  | _, _ => none
def opN (P : Program) (fz : Bool) (o : Oper) (st : St) : Option NewR :=
  match o.op with
  | .alloc t => match P.info? t with
    | some i => match i.zero with
      | some z => if constOk z ∧ okC (AV.ofValue z) = true then some (mkNew fz t (cellsOf (AV.ofValue z))) else none
      | none => none
    | none => none
  | .box t x => if okC (aev st x) then some (mkNew fz t (cellsOf (aev st x))) else none
  | .buildSlice t len parts => match P.underlying t with
    | some (.slice e) => match P.info? e with
      | some i => match i.zero with
        | some z => if z.cells.size = i.size ∧ len * i.size ≤ 16777216 ∧ parts.size = len ∧ 0 < i.size ∧ partsOk i.size 0 (parts.toList.map fun p => (p.1, aev st p.2)) = true then
            some (mkRow fz e i.size (parts.toList.map fun p => cellsOf (aev st p.2))) else none
        | none => none
      | none => none
    | _ => none
  | .makeMap _ none => some (.own (.map []) .mref)
  | .makeSlice t l c => match P.underlying t with
    | some (.slice e) => match P.info? e with
      | some i => match i.zero with
        | some z => if z.cells.size = i.size ∧ 0 < i.size ∧ constOk z ∧ okC (AV.ofValue z) = true then mkSl e i.size i.bytes (cellsOf (AV.ofValue z)) (aev st l) (aev st c) else none
        | none => none
      | none => none
    | _ => none
  | .convert src dst x => match P.underlying src, P.underlying dst, aev st x with
    | some .string, some (.slice e), .lit (.string s) => if isU8 (P.underlying e) then some (.frz (.svals (bytesAV s))) else none
    | _, _, _ => none
  | _ => none
def newOk (P : Program) (m : Mu) (w : World) (S : Store) (ρ : Operand → Value) (o : Oper) (r : NewR) : Prop :=
  match r with
  | .own ob f => ∀ t, m.loc t = none → ∃ v w' L, (execOp ρ o).run P w = .ok (.value v) w' ∧ Rel (m.name t L) (S.set t ob) w' ∧ RelV (m.name t L) (f t) v
  | .frz x => ∃ v w' m', (execOp ρ o).run P w = .ok (.value v) w' ∧ m.le m' ∧ m'.H = m.H ∧ m'.loc = m.loc ∧ Rel m' S w' ∧ RelV m' x v
theorem mkNew_ok {P : Program} {m : Mu} {S : Store} {w : World} (h : Rel m S w) {ρ : Operand → Value} {o : Oper} (fz : Bool) {t : TypeId} {cs : List AV} {cs' : Array Value} (hl : cs'.size = cs.length)
    (hr : ∀ j (hj : j < cs.length), RelV m cs[j] (cs'.getD j undef) ∧ (cs'.getD j undef).oneCell' = true)
    (hrun : (execOp ρ o).run P w = .ok (.value (.pointer (some ⟨w.heap.size, 0, none⟩))) (w.alloc (.cells cs' t))) : newOk P m w S ρ o (mkNew fz t cs) := by
  unfold mkNew
  have hget : ∀ j, j < cs.length → cs'[j]? = some (cs'.getD j undef) := fun j hj => by
    have : j < cs'.size := by omega
    simp [Array.getD, this]
  cases fz
  · intro u hu
    refine ⟨_, _, ⟨w.heap.size, cs.length, 1⟩, hrun, h.new hu rfl (.row rfl ⟨by simp [hl], by simp, by simp [maxLen], by simp, fun j v hv => ?_, fun i hi j hj => ?_⟩), ?_⟩
    · obtain ⟨hlt, rfl⟩ := Array.getElem?_eq_some_iff.1 hv
      have := (hr j (by omega)).2
      simpa [Array.getD, hlt] using this
    · simp only [List.length_singleton] at hi
      obtain rfl : i = 0 := by omega
      simp only [List.getElem_singleton] at hj ⊢
      simpa using (hr j hj).1
    · have := RelV.ptr (m := m.name u ⟨w.heap.size, cs.length, 1⟩) (t := u) (i := 0) (off := 0) (L := ⟨w.heap.size, cs.length, 1⟩) (by simp [Mu.name])
      simpa using this
  · obtain ⟨hle, hrel⟩ := h.newZ (.cells cs' t)
    refine ⟨_, _, _, hrun, hle, rfl, rfl, hrel, ?_⟩
    have := RelV.fptr (m := m.freeze w.heap.size (.cells cs' t)) (cs := cs) (off := 0) (b := w.heap.size) (o := 0) (cur := cs') (e := t) (fr := (0, 0)) (by simp [Mu.freeze]) (fun j => cs'.getD j undef)
      (fun j hj => by simpa using hget j hj) (fun j hj => (hr j hj).2) (fun j hj => ((hr j hj).1).mono hle)
    simpa using this
theorem mkRow_ok {P : Program} {m : Mu} {S : Store} {w : World} (h : Rel m S w) {ρ : Operand → Value} {o : Oper} (fz : Bool) {e : TypeId} {sz : Nat} (hsz : 0 < sz) {l : List (List AV)} (hll : ∀ c ∈ l, c.length = sz) (hmax : l.length ≤ maxLen) {cs' : Array Value} (hl : cs'.size = l.length * sz)
    (hr : ∀ i (hi : i < l.length) j (hj : j < l[i].length), RelV m l[i][j] (cs'.getD (i * sz + j) undef) ∧ (cs'.getD (i * sz + j) undef).oneCell' = true)
    (hrun : (execOp ρ o).run P w = .ok (.value (.slice (some ⟨w.heap.size, 0, none⟩) l.length l.length)) (w.alloc (.cells cs' e))) : newOk P m w S ρ o (mkRow fz e sz l) := by
  unfold mkRow
  have hlt : ∀ i j, i < l.length → j < sz → i * sz + j < cs'.size := fun i j hi hj => by rw [hl]; exact mul_lt_of hi hj (Nat.le_refl _)
  have hone : ∀ k, k < cs'.size → (cs'.getD k undef).oneCell' = true := by
    intro k hk
    rw [hl] at hk
    have hi : k / sz < l.length := (Nat.div_lt_iff_lt_mul hsz).2 hk
    have hj : k % sz < l[k / sz].length := by rw [hll _ (List.getElem_mem hi)]; exact Nat.mod_lt _ hsz
    have := (hr (k / sz) hi (k % sz) hj).2
    rwa [Nat.mul_comm, Nat.div_add_mod] at this
  cases fz
  · intro u hu
    refine ⟨_, _, ⟨w.heap.size, sz, l.length⟩, hrun, h.new hu rfl (.row rfl ⟨hl, Nat.le_refl _, hmax, hll, fun j v hv => ?_, fun i hi j hj => (hr i hi j hj).1⟩), ?_⟩
    · obtain ⟨hlt, rfl⟩ := Array.getElem?_eq_some_iff.1 hv
      have := hone j hlt
      simpa [Array.getD, hlt] using this
    · have := RelV.sref (m := m.name u ⟨w.heap.size, sz, l.length⟩) (t := u) (off := 0) (len := l.length) (L := ⟨w.heap.size, sz, l.length⟩) (by simp [Mu.name]) (by simp)
      simpa using this
  · obtain ⟨hle, hrel⟩ := h.newZ (.cells cs' e)
    refine ⟨_, _, _, hrun, hle, rfl, rfl, hrel, ?_⟩
    refine RelV.svals (m := m.freeze w.heap.size (.cells cs' e)) (l := l) (b := w.heap.size) (o := 0) (sz := sz) (cur := cs') (e := e) (fr := (0, 0)) (by simp [Mu.freeze]) hll (fun i j => cs'.getD (i * sz + j) undef)
      (fun i j hi hj => ?_) (fun i j hi hj => hone _ (hlt i j hi hj)) (fun i hi j hj => ((hr i hi j hj).1).mono hle) (Nat.le_refl _)
    have := hlt i j hi hj
    simp [Array.getD, this]
end Go.Du
namespace Go.Du
open Go
section
variable {P : Program} {m : Mu} {w : World} {S : Store}
theorem partsOk_spec {sz : Nat} : ∀ {i : Nat} {l : List (Nat × AV)}, partsOk sz i l = true → l.map (·.1) = (List.range' i l.length) ∧ ∀ p ∈ l, okC p.2 = true ∧ (cellsOf p.2).length = sz
  | i, [], _ => by simp
  | i, (j, x) :: l, h => by
    simp only [partsOk, Bool.and_eq_true, beq_iff_eq] at h
    obtain ⟨⟨⟨h1, h2⟩, h3⟩, h4⟩ := h
    subst h1
    obtain ⟨g1, g2⟩ := partsOk_spec h4
    refine ⟨by simp [g1, List.range'_succ], ?_⟩
    intro p hp
    rcases List.mem_cons.1 hp with rfl | hp
    · exact ⟨h2, h3⟩
    · exact g2 p hp
theorem getD_getElem? {α : Type} {a : Array α} {i : Nat} {d : α} (h : i < a.size) : a[i]? = some (a.getD i d) := by simp [Array.getD, h]
theorem opN_ok (h : Rel m S w) {n : Nat} {st : St} {a : Act} (ht : RelT m n st a.tmps) {o : Oper} (hops : opdsOk n o = true) {fz : Bool} {r : NewR} (hx : opN P fz o st = some r) : newOk P m w S a.eval o r := by
  have hall : ∀ y ∈ o.op.operands.toList, opdOk n y = true := fun y hy => Array.all_eq_true'.1 hops y (by simpa using hy)
  have rel : ∀ y, y ∈ o.op.operands.toList → RelV m (aev st y) (a.eval y) := fun y hy => relV_aev ht (hall y hy)
  unfold opN at hx
  split at hx
  case h_1 t ho =>
    split at hx
    · rename_i i hi
      split at hx
      · rename_i z hz
        split at hx
        · rename_i hc
          simp only [Option.some.injEq] at hx; subst hx
          have rz := relV_ofValue m hc.1
          obtain ⟨c1, c2⟩ := cells_ok rz hc.2
          refine mkNew_ok h fz c1 c2 ?_
          simp [execOp, ho, Instr.alloc, zeroValue, typeInfo, hi, hz, newVar, newRow]
        · cases hx
      · cases hx
    · cases hx
  case h_2 t y ho =>
    split at hx
    · rename_i hc
      simp only [Option.some.injEq] at hx; subst hx
      obtain ⟨c1, c2⟩ := cells_ok (rel y (by simp [ho, Op.operands])) hc
      refine mkNew_ok h fz c1 c2 ?_
      simp [execOp, ho, Instr.box, newVar, newRow]
    · cases hx
  case h_3 t len parts ho =>
    split at hx
    · rename_i e hu
      split at hx
      · rename_i i hi
        split at hx
        · rename_i z hz
          split at hx
          · rename_i hc
            obtain ⟨hzs, hmax, hps, h0, hp⟩ := hc
            simp only [Option.some.injEq] at hx; subst hx
            obtain ⟨p1, p2⟩ := partsOk_spec hp
            have hrelp : ∀ p ∈ parts.toList, RelV m (aev st p.2) (a.eval p.2) := fun p hp => rel p.2 (by simp only [ho, Op.operands]; simp; exact ⟨p.1, by simpa using hp⟩)
            have hcell : ∀ p ∈ parts.toList, (a.eval p.2).cells.size = (cellsOf (aev st p.2)).length ∧ ∀ j (hj : j < (cellsOf (aev st p.2)).length), RelV m (cellsOf (aev st p.2))[j] ((a.eval p.2).cells.getD j undef) ∧ ((a.eval p.2).cells.getD j undef).oneCell' = true :=
              fun p hp => cells_ok (hrelp p hp) (p2 (p.1, aev st p.2) (List.mem_map.2 ⟨p, hp, rfl⟩)).1
            have hsz : ∀ p ∈ parts.toList, (cellsOf (aev st p.2)).length = i.size := fun p hp => (p2 (p.1, aev st p.2) (List.mem_map.2 ⟨p, hp, rfl⟩)).2
            obtain ⟨vs, hvs⟩ : ∃ vs, vs = parts.toList.map fun p => a.eval p.2 := ⟨_, rfl⟩
            have hvl : vs.length = len := by rw [hvs]; simp [hps]
            have hparts : parts.toList.map (fun p => (p.1, a.eval p.2)) = (vs.zipIdx 0).map fun x => (x.2, x.1) := by
              apply List.ext_getElem?
              intro k
              simp only [List.getElem?_map, List.getElem?_zipIdx, hvs, Nat.zero_add]
              by_cases hk : k < parts.toList.length
              · have e1 : (parts.toList[k]).1 = k := by
                  have := congrArg (fun l => l[k]?) p1
                  simp only [List.map_map, List.getElem?_map, List.getElem?_eq_getElem hk, Option.map_some, Function.comp, List.length_map] at this
                  rw [List.getElem?_range' hk] at this
                  simpa using this
                simp [List.getElem?_eq_getElem hk]
                simpa using e1
              · simp [List.getElem?_eq_none (Nat.le_of_not_lt hk)]
            obtain ⟨cs', hfill, hsize, hk⟩ := Go.Great.fill_dense h0 vs 0 ((Array.range (len * i.size)).map (z.cells[· % z.cells.size]!)) (fun v hv => by
              rw [hvs] at hv
              obtain ⟨p, hp, rfl⟩ := List.mem_map.1 hv
              rw [(hcell p hp).1, hsz p hp]) (by simp [hvl])
            have hl : (parts.toList.map fun p => cellsOf (aev st p.2)).length = len := by simp [hps]
            refine mkRow_ok h fz h0 (fun c hc => ?_) ?_ (cs' := cs') ?_ (fun k hk' j hj => ?_) ?_
            · obtain ⟨p, hp, rfl⟩ := List.mem_map.1 hc
              exact hsz p hp
            · rw [hl]; simp only [maxLen]; have := Nat.le_trans (Nat.le_mul_of_pos_right len h0) hmax; omega
            · rw [hl, hsize]; simp
            · rw [hl] at hk'
              have hkp : k < parts.toList.length := by simp [hps]; exact hk'
              have hmem := List.getElem_mem hkp
              simp only [List.getElem_map] at hj ⊢
              have hji : j < i.size := by rw [← hsz _ hmem]; exact hj
              have hlt : k * i.size + j < cs'.size := by rw [hsize]; simp; exact mul_lt_of hk' hji (Nat.le_refl _)
              have hkk := hk (k * i.size + j)
              rw [if_pos ⟨by omega, by rw [Nat.zero_add, hvl]; exact mul_lt_of hk' hji (Nat.le_refl _)⟩] at hkk
              have d1 : (k * i.size + j) / i.size = k := by rw [Nat.mul_comm, Nat.mul_add_div h0, Nat.div_eq_of_lt hji, Nat.add_zero]
              have d2 : (k * i.size + j) % i.size = j := by rw [Nat.mul_comm, Nat.mul_add_mod, Nat.mod_eq_of_lt hji]
              rw [d1, d2, Nat.sub_zero, hvs, List.getElem?_map, List.getElem?_eq_getElem hkp, Option.map_some, Option.bind_some] at hkk
              have hc := (hcell _ hmem).2 j hj
              have hjv : j < (a.eval (parts.toList[k]).2).cells.size := by rw [(hcell _ hmem).1]; exact hj
              rw [getD_getElem? (d := undef) hjv] at hkk
              rw [getD_of_some hkk]
              exact hc
            · rw [hl]
              have hno : ¬ len * i.size > 2 ^ 24 := by omega
              have hpl : (parts.map fun x => (x.1, a.eval x.2)).toList = (vs.zipIdx 0).map fun x => (x.2, x.1) := by rw [← hparts]; simp
              have this : (parts.map fun (i, x) => (i, a.eval x)).toList = (vs.zipIdx 0).map fun x => (x.2, x.1) := hpl
              simp only [execOp, ho, Instr.buildSlice, Sem.run_bind, run_underlying hu, Result.andThen_ok, run_sizeOf' hi, Sem.run_ite, if_neg hno, Sem.run_pure]
              by_cases hz0 : len * i.size = 0
              · rw [if_pos hz0]
                rw [show (Array.range (len * i.size)).map (fun x => (#[] : Array Value)[x % (#[] : Array Value).size]!) = (Array.range (len * i.size)).map (z.cells[· % z.cells.size]!) by rw [hz0]; simp, this, hfill]
                simp [newRow]
              · rw [if_neg hz0]
                simp only [zeroValue, typeInfo, Sem.run_bind, run_program, Result.andThen_ok, hi, Sem.run_pure, hz]
                rw [this, hfill]
                simp [newRow]
          · cases hx
        · cases hx
      · cases hx
    · cases hx
  case h_4 t ho =>
    simp only [Option.some.injEq] at hx; subst hx
    intro u hu
    refine ⟨_, _, ⟨w.heap.size, 0, 0⟩, by simp [execOp, ho, Instr.makeMap]; exact ⟨rfl, rfl⟩, h.new hu rfl (.map (by simp) (fun i e he => by simp at he) (fun i j e e' he => by simp at he) (fun i hi => absurd hi (Nat.not_lt_zero _))), ?_⟩
    have := RelV.mref (m := m.name u ⟨w.heap.size, 0, 0⟩) (t := u) (L := ⟨w.heap.size, 0, 0⟩) (by simp [Mu.name])
    simpa using this
  case h_5 t l c ho =>
    split at hx
    · rename_i e hu
      split at hx
      · rename_i i hi
        split at hx
        · rename_i z hz
          split at hx
          · rename_i hcnd
            obtain ⟨hzs, hs0, hcz, hok⟩ := hcnd
            unfold mkSl at hx
            split at hx
            rotate_left
            · cases hx
            rename_i p q hl hc
            split at hx
            rotate_left
            · cases hx
            rename_i hcnd2
            obtain ⟨rfl, h0, hby, hmx⟩ := hcnd2
            simp only [Option.some.injEq] at hx; subst hx
            have lint : ∀ {y : Operand} {k : Int}, y ∈ o.op.operands.toList → litInt (aev st y) = some k → ∃ kd, a.eval y = .int kd k := by
              intro y k hy hk
              have ry := rel y hy
              unfold litInt at hk
              split at hk
              · rename_i kd k' e
                simp only [Option.some.injEq] at hk; subst hk
                rw [e] at ry
                exact ⟨kd, ry.lit_inv⟩
              · cases hk
            obtain ⟨k1, e1⟩ := lint (y := l) (by simp [ho, Op.operands]) hl
            obtain ⟨k2, e2⟩ := lint (y := c) (by simp [ho, Op.operands]) hc
            have rz := relV_ofValue m hcz
            obtain ⟨c1, c2⟩ := cells_ok rz hok
            have hlz : (cellsOf (AV.ofValue z)).length = i.size := by rw [← c1, hzs]
            have hrun := run_make (P := P) w t e i z hu hi hz k1 k2 p p h0 (Int.le_refl _) (by rw [Int.mul_comm]; omega) hmx
            have := mkRow_ok (P := P) (ρ := a.eval) (o := o) h false (e := e) (sz := i.size) hs0 (l := List.replicate p.toNat (cellsOf (AV.ofValue z))) (fun c hc => by rw [List.eq_of_mem_replicate hc, hlz]) (by simp [maxLen]; omega)
              (cs' := madeCells z.cells (p.toNat * i.size)) (by simp [size_madeCells]) (fun k hk j hj => by
                simp only [List.length_replicate] at hk
                simp only [List.getElem_replicate] at hj ⊢
                have hj' : j < i.size := by omega
                have hlt : k * i.size + j < (madeCells z.cells (p.toNat * i.size)).size := by rw [size_madeCells]; exact mul_lt_of hk hj' (Nat.le_refl _)
                have e : (madeCells z.cells (p.toNat * i.size)).getD (k * i.size + j) undef = z.cells.getD j undef := by
                  have hjz : j < z.cells.size := by omega
                  have hmod : (k * i.size + j) % i.size = j := by rw [Nat.mul_comm, Nat.mul_add_mod, Nat.mod_eq_of_lt hj']
                  simp only [Array.getD, hlt, ↓reduceDIte, hjz]
                  simp only [madeCells, Array.getInternal_eq_getElem, Array.getElem_map, Array.getElem_range, hzs, hmod]
                  simp [hjz]
                rw [e]
                exact c2 j hj) (by
                simp only [execOp, ho, e1, e2, Sem.run_bind, hrun, Result.andThen_ok, Sem.run_pure, List.length_replicate])
            have h2 := this
            simp only [mkRow, List.length_replicate] at h2
            exact h2
          · cases hx
        · cases hx
      · cases hx
    · cases hx
  case h_6 src dst y ho =>
    split at hx
    · rename_i e s hs hd he
      split at hx
      · rename_i hu8
        simp only [Option.some.injEq] at hx; subst hx
        have hu8' : P.underlying e = some (.int .u8) := by
          unfold isU8 at hu8; split at hu8
          · assumption
          · cases hu8
        have ry := rel y (by simp [ho, Op.operands])
        rw [he] at ry
        have ey := ry.lit_inv
        have hrun := Lib.run_convert_string_bytes (P := P) w src dst e s hs hd hu8'
        obtain ⟨hle, hrel⟩ := h.newZ (.cells (Lib.bytesCells w e s) e ((Lib.bytesCells w e s).size, (Lib.bytesCells w e s).size + 1))
        refine ⟨.slice (some ⟨w.heap.size, 0, none⟩) s.size (grownCap w s.size 0 e), Lib.bytesWorld w e s, _, by simp only [execOp, ho, ey, Sem.run_bind, hrun, Result.andThen_ok, Sem.run_pure], hle, rfl, rfl, ?_, ?_⟩
        · refine ⟨fun b ob hb => ?_, fun b ob hb => ?_, fun t ob L h1 h2 => ?_, hrel.inj, fun t L hL => ?_, hrel.os, hrel.out, hrel.tape, hrel.fin⟩
          · by_cases eb : b = w.heap.size
            · subst eb
              simp only [Mu.freeze, ↓reduceIte, Option.some.injEq] at hb; subst hb
              exact Lib.bytesWorld_at_new w e s
            · simp only [Mu.freeze, if_neg eb] at hb
              have := h.z b ob hb
              rw [Lib.bytesWorld_at_old w e s b (lt_of_heap this)]; exact this
          · have := h.h b ob hb
            exact ⟨by rw [Lib.bytesWorld_at_old w e s b (lt_of_heap this.1)]; exact this.1, (hrel.h b ob hb).2⟩
          · obtain ⟨g1, g2, ob', g3, g4⟩ := h.owned t ob L h1 h2
            obtain ⟨k1, k2, _⟩ := hrel.owned t ob L h1 h2
            exact ⟨k1, k2, ob', by rw [Lib.bytesWorld_at_old w e s L.b (lt_of_heap g3)]; exact g3, g4.mono hle⟩
          · rw [Lib.bytesWorld_size]
            have := h.bound t L hL; omega
        · have hlen : (bytesAV s).length = s.size := by simp [bytesAV, ByteArray.toList_eq]
          have hgd : ∀ i (hi : i < s.size), s.toList.getD i 0 = s.data[i] := fun i hi => by
            have hi2 : i < s.data.size := hi
            rw [ByteArray.toList_eq, List.getD, List.getElem?_eq_getElem (by simpa using hi2)]
            simp
          have hZ : (m.freeze w.heap.size (.cells (Lib.bytesCells w e s) e ((Lib.bytesCells w e s).size, (Lib.bytesCells w e s).size + 1))).Z w.heap.size = some (.cells (Lib.bytesCells w e s) e ((Lib.bytesCells w e s).size, (Lib.bytesCells w e s).size + 1)) := by simp [Mu.freeze]
          have := RelV.svals (l := bytesAV s) (b := w.heap.size) (o := 0) (sz := 1) (c := grownCap w s.size 0 e)
            hZ (fun x hx => by obtain ⟨b, _, rfl⟩ := List.mem_map.1 hx; rfl) (fun i _ => .int .u8 (s.toList.getD i 0).toNat) (fun i j hi hj => by
              obtain rfl : j = 0 := by omega
              rw [hlen] at hi
              have hi' : i < s.data.size := hi
              rw [hgd i hi]
              have hi3 : s.data[i]? = some s.data[i] := Array.getElem?_eq_getElem hi'
              simp [Lib.bytesCells, Array.getElem?_append, hi, hi3]) (fun i j _ _ => rfl) (fun i hi j hj => by
              have : j = 0 := by simp only [bytesAV, List.getElem_map, List.length_singleton] at hj; omega
              subst this
              rw [hlen] at hi
              have hi2 : i < s.data.size := hi
              rw [hgd i hi]
              simp only [bytesAV, List.getElem_map, List.getElem_cons_zero, ByteArray.toList_eq, Array.getElem_toList]
              exact .lit _ rfl) (by rw [hlen]; exact grownCap_ge w _ _ _)
          rw [hlen] at this
          exact this
      · cases hx
    · cases hx
  case h_7 => cases hx
end
end Go.Du
