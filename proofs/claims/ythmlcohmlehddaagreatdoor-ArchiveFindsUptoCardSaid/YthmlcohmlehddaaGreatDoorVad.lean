/- What is proved: at every archive row that the statement's guards let in, the rows of a key, and of keys, are the document's, so that the spec answers true.
Conditions: the call's arguments together hold at most 1048576 values and letters (the card's own bound); no other. -/
import Derived.RangeFuncRecord
import Derived.Test.YthmlcohmlehddaaGreatDoorVac
set_option linter.all false
namespace Go.Du
open Go
section
variable {m : Mu} {S : Store} {w : World}
theorem Rel.hsub (h : Rel m S w) {H : List (Nat × Obj)} (hs : ∀ x ∈ H, x ∈ m.H) : Rel { m with H := H } S w :=
  have hle : m.le { m with H := H } := ⟨fun _ _ h => h, fun _ _ h => h, rfl, rfl, rfl⟩
  ⟨h.z, fun b o hb => h.h b o (hs _ hb), fun t o L h1 h2 => by
    obtain ⟨g1, g2, ob, g3, g4⟩ := h.owned t o L h1 h2
    exact ⟨g1, fun o' ho => g2 o' (hs _ ho), ob, g3, g4.mono hle⟩, h.inj, h.bound, h.os, h.out, h.tape, h.fin⟩
theorem Rel.hold (h : Rel m S w) (o : Obj) : Rel { m with H := (w.heap.size, o) :: m.H } S (w.alloc o) := by
  have hle : m.le { m with H := (w.heap.size, o) :: m.H } := ⟨fun _ _ h => h, fun _ _ h => h, rfl, rfl, rfl⟩
  refine ⟨fun b o' hb => ?_, fun b o' hb => ?_, fun t o' L h1 h2 => ?_, h.inj, fun t L h1 => ?_, h.os, h.out, h.tape, h.fin⟩
  · have := h.z b o' hb; rw [heap_alloc_ne (lt_of_heap this)]; exact this
  · simp only [List.mem_cons, Prod.mk.injEq] at hb
    rcases hb with ⟨rfl, rfl⟩ | hb
    · refine ⟨heap_alloc_new w _, ?_⟩
      cases hz : m.Z w.heap.size with
      | none => rfl
      | some o'' => have := lt_of_heap (h.z _ _ hz); omega
    · have := h.h b o' hb
      exact ⟨by rw [heap_alloc_ne (lt_of_heap this.1)]; exact this.1, this.2⟩
  · obtain ⟨g1, g2, ob, g3, g4⟩ := h.owned t o' L h1 h2
    have hl := lt_of_heap g3
    refine ⟨g1, fun o'' ho => ?_, ob, by rw [heap_alloc_ne hl]; exact g3, g4.mono hle⟩
    simp only [List.mem_cons, Prod.mk.injEq] at ho
    rcases ho with ⟨e, _⟩ | ho
    · omega
    · exact g2 _ ho
  · have := h.bound t L h1; simp; omega
theorem Rel.putO (h : Rel m S w) {t : Nat} {L : Loc} (hL : m.loc t = some L) (hS : S t ≠ none) {o : AObj} {ob : Obj} (ho : ObjOk m L o ob) (hlt : L.b < w.heap.size) : Rel m (S.set t o) (w.putObj L.b ob) :=
  h.write hL hS ho (World.putObj_heap_same hlt) (fun b hb => World.putObj_heap_other hb) rfl rfl rfl (by simp [World.putObj])
end
def endK (K : AK) (pend : Option Code) (st : St) (S : Store) : Prop :=
  match pend with
  | none => K .normal st S
  | some .ret => K .ret st S
  | some (.exit i) => K (.exit i) st S
  | _ => False
theorem AWp_range {P : Program} (hP : NoNG P) {n : Nat} {g : Operand} {ps : Array Tmp} {assign body : Code} {K : AK} {st : St} {S : Store} {f : FuncId} {cap : List AV} (ho : opdOk n g = true) (hg : aev st g = .func (.func f) [] cap) (hb : hasBody P f = true)
    (h : ∀ t fn D, S t = none → ATriple P f (.yield t :: cap) (S.set t (.lrec .ready none st n fn ps assign body D)) fun _ S' => ∃ state pend, S' t = some (.lrec state pend st n fn ps assign body D) ∧ state ≠ .busy ∧ endK K pend st (S'.erase t)) :
    AWp P none n (.rangeFunc g ps assign body) K st S := by
  intro H0 m a w hr ht hd
  show (Code.rangeFunc g ps assign body).wpIn (Fw none) 0 P (post n H0 m K) a w
  refine wpIn_rangeFunc ?_
  intro fn hfn
  obtain ⟨t, ht0, hS0⟩ := hr.fresh
  obtain ⟨w0, hw0⟩ : ∃ w0, w0 = w.alloc (.deferred (some [])) := ⟨_, rfl⟩
  obtain ⟨m0, hm0⟩ : ∃ m0 : Mu, m0 = { m with H := (w.heap.size, .deferred (some [])) :: m.H } := ⟨_, rfl⟩
  have hle0 : m.le m0 := by rw [hm0]; exact ⟨fun _ _ h => h, fun _ _ h => h, rfl, rfl, rfl⟩
  have hr0 : Rel m0 S w0 := by rw [hm0, hw0]; exact hr.hold _
  have hsz0 : w0.heap.size = w.heap.size + 1 := by rw [hw0]; simp
  obtain ⟨ob, hob⟩ : ∃ ob : Obj, ob = .loop { state := .ready, pending := none, fn, tmps := a.tmps, params := ps, assign, body, defers := w.heap.size } := ⟨_, rfl⟩
  have hok : ObjOk m0 ⟨w0.heap.size, 0, 0⟩ (.lrec .ready none st n fn ps assign body w.heap.size) ob := by
    rw [hob]; exact .lrec ht.1 fun i hi => (ht.2 i hi).mono hle0
  have ht00 : m0.loc t = none := by rw [hm0]; exact ht0
  have hr1 := hr0.new ht00 (L := ⟨w0.heap.size, 0, 0⟩) rfl hok
  have hle1 : m0.le (m0.name t ⟨w0.heap.size, 0, 0⟩) := Mu.le_name ht00
  obtain ⟨m1, hm1⟩ : ∃ m1, m1 = m0.name t ⟨w0.heap.size, 0, 0⟩ := ⟨_, rfl⟩
  rw [← hm1] at hr1 hle1
  have hloc : m1.loc t = some ⟨w0.heap.size, 0, 0⟩ := by rw [hm1]; simp [Mu.name]
  have hH1 : m1.H = (w.heap.size, .deferred (some [])) :: m.H := by rw [hm1, hm0]; rfl
  have hv := relV_aev (a := a) ht ho
  rw [hg] at hv
  generalize hev : a.eval g = gv at hv
  cases hv with
  | func h1 h2 r1 r2 =>
    rename_i first' cap'
    have hf0 : first' = #[] := Array.eq_empty_of_size_eq_zero (by simpa using h1.symm)
    subst hf0
    have hres : (resolve a.eval (rangeCall g (w.heap.size + 1)) 0).run P (w0.alloc ob) = .ok { target := .fn (.func f) cap', args := #[.func (.yield (w.heap.size + 1)) #[] #[]] } (w0.alloc ob) := by
      simp only [resolve, hev]
      simp [go_sem]
    refine ⟨w.heap.size + 1, [{ target := .collected w.heap.size, args := #[] }], w0.alloc ob, { target := .fn (.func f) cap', args := #[.func (.yield (w.heap.size + 1)) #[] #[]] }, w0.alloc ob, f, #[.func (.yield (w.heap.size + 1)) #[] #[]] ++ cap', w0.alloc ob, ?_, hres, ?_, ?_, ?_, ?_⟩
    · rw [hob, hw0]; exact run_enterLoop_outer _ _ _ _ _
    · intro f' _; trivial
    · simp [invoke, go_sem, callFunc_enter hP hb]
    · intro hc; simp [Fw, Fence.wide] at hc
    · have hargs : RelVs m1 (.yield t :: cap) (#[.func (.yield (w.heap.size + 1)) #[] #[]] ++ cap') := by
        refine ⟨by simp [h2]; omega, fun i hi => ?_⟩
        cases i with
        | zero =>
          have := RelV.yield (m := m1) hloc
          rw [hsz0] at this
          simpa [Array.getD, show 0 < 1 + cap'.size by omega] using this
        | succ i =>
          have hi' : i < cap.length := by simpa using hi
          have hi2 : i < cap'.size := by omega
          have := (r2 i hi').mono (hle0.trans hle1)
          have e : (#[Value.func (.yield (w.heap.size + 1)) #[] #[]] ++ cap').getD (i + 1) undef = cap'.getD i undef := by
            simp only [Array.getD_eq_getD_getElem?, Array.getElem?_append]
            simp
          rw [e]
          simpa using this
      refine (h t fn w.heap.size hS0 m1 _ _ hr1 hargs).mono fun e w' ⟨v, x, S', m', he, ⟨state, pend, hS', hnb, hend⟩, hle, hH, hrel, hv⟩ => ?_
      subst he
      have hloc' := hle.loc _ _ hloc
      obtain ⟨k1, k2, ob', k3, k4⟩ := hrel.owned t _ _ hS' hloc'
      cases k4 with
      | lrec hs hrt =>
        rename_i tmps'
        rw [hsz0] at k3
        have hrun := run_endLoop (P := P) k3 hnb
        refine ⟨pend, _, hrun, ?_⟩
        have hlt := lt_of_heap k3
        have hloc2 : m'.loc t = some ⟨w.heap.size + 1, 0, 0⟩ := by rw [hloc', hsz0]
        have hw4 := hrel.putO (o := .lrec .exhausted pend st n fn ps assign body w.heap.size) (ob := .loop { state := .exhausted, pending := pend, fn, tmps := tmps', params := ps, assign, body, defers := w.heap.size }) hloc2 (by rw [hS']; simp) (.lrec hs hrt) hlt
        have hrel4 : Rel m' (S'.erase t) (w'.putObj (w.heap.size + 1) (.loop { state := .exhausted, pending := pend, fn, tmps := tmps', params := ps, assign, body, defers := w.heap.size })) := by
          refine hw4.drop fun u o hu => ?_
          by_cases e : u = t
          · subst e; simp at hu
          · rw [Store.erase_ne _ _ e] at hu; rw [Store.set_ne _ _ _ e]; exact hu
        have hle' : m.le m' := (hle0.trans hle1).trans hle
        have ht' : RelT m' n st a.tmps := ⟨ht.1, fun i hi => (ht.2 i hi).mono hle'⟩
        have hd' : Dfr H0 m' { a with defers := [{ target := .collected w.heap.size, args := #[] }] ++ a.defers } := by
          obtain ⟨Ds, ⟨d1, d2, d3⟩, d4⟩ := hd
          refine ⟨w.heap.size :: Ds, ⟨by simp [d1], List.nodup_cons.2 ⟨fun hmem => ?_, d2⟩, fun d hdm o hoH => ?_⟩, by rw [hH, hH1, d4]; rfl⟩
          · have : (w.heap.size, Obj.deferred (some [])) ∈ m.H := by rw [d4]; exact List.mem_append_left _ (List.mem_map.2 ⟨_, hmem, rfl⟩)
            have := lt_of_heap (hr.h _ _ this).1; omega
          · simp only [List.mem_cons] at hdm
            rcases hdm with rfl | hdm
            · have : (w.heap.size, o) ∈ m.H := by rw [d4]; exact List.mem_append_right _ hoH
              have := lt_of_heap (hr.h _ _ this).1; omega
            · exact d3 d hdm o hoH
        cases pend with
        | none => exact ⟨m', st, _, hle', hrel4, ht', hd', hend⟩
        | some c =>
          cases c <;> first
            | exact hend.elim
            | exact wpIn_ret ⟨m', st, _, hle', hrel4, ht', hd', hend⟩
            | exact wpIn_exit ⟨m', st, _, hle', hrel4, ht', hd', hend⟩
def roundK (t : Nat) (rec : LoopState → Option Code → AObj) (K : AV → Store → Prop) : AK := fun e _ S =>
  S t = some (rec .busy none) ∧
  match e with
  | .normal => K (.lit (.bool true)) (S.set t (rec .ready none))
  | .ret => K (.lit (.bool false)) (S.set t (rec .done (some .ret)))
  | .exit i => K (.lit (.bool false)) (S.set t (rec .done (some (.exit i))))
  | _ => False
def asgK (P : Program) (l n : Nat) (body : Code) (t : Nat) (rec : LoopState → Option Code → AObj) (K : AV → Store → Prop) : AK := fun e st S =>
  e = .normal ∧ S t = some (rec .ready none) ∧ AWp P (some l) n body (roundK t rec K) st (S.set t (rec .busy none))
theorem yield_core {P : Program} {t : Nat} {xs : List AV} {S : Store} {K : AV → Store → Prop} {st st' : St} {n : Nat} {fn : FuncId} {ps : Array Tmp} {assign body : Code} {D : Nat}
    (hS : S t = some (.lrec .ready none st n fn ps assign body D)) (hl : xs.length = ps.size)
    (hst : ∀ m tmps args', RelVs m xs args' → RelT m n st tmps → RelT m n st' ((ps.zip args').foldl (fun tmps (t, a) => tmps.setIfInBounds t a) tmps))
    (h : ∀ l, AWp P (some l) n assign (asgK P l n body t (fun s q => .lrec s q st n fn ps assign body D) K) st' S) : callW P (.yield t) xs S K := by
  show AVCall P (.yield t) xs S K
  intro m w fv' args' hr hf ha
  cases hf with
  | yield hL =>
    rename_i L
    obtain ⟨k1, k2, ob, k3, k4⟩ := hr.owned t _ L hS hL
    cases k4 with
    | lrec hs hrt =>
      rename_i tmps
      have hrun : (do let d ← Deferred.ofValue (.func (.yield L.b) #[] #[]) args'; invoke d.target d.args : Sem Next).run P w = (Instr.yield L.b args').run P w := by
        simp [Deferred.ofValue, invoke, go_sem]
      rw [hrun, run_yield k3 (by rw [← ha.1, hl])]
      refine roundIn_of_wpIn (by trivial) ?_
      have ht0 := hst m tmps args' ha ⟨hs, hrt⟩
      have h1 := h L.b m.H m { tmps := (ps.zip args').foldl (fun tmps (t, a) => tmps.setIfInBounds t a) tmps, defers := [] } w hr ht0 ⟨[], ⟨rfl, List.nodup_nil, fun d hd => by cases hd⟩, rfl⟩
      refine wpIn_mono (F := Fw (some L.b)) h1 ?_
      intro e a1 w1 hp
      cases e with
      | normal =>
        obtain ⟨m1, st1, S1, g1, g2, g3, g4, -, g6, g7⟩ := hp
        have hL1 := g1.loc _ _ hL
        obtain ⟨j1, j2, ob1, j3, j4⟩ := g2.owned t _ L g6 hL1
        cases j4 with
        | lrec hs1 hrt1 =>
          rename_i tmps1
          have hlt1 := lt_of_heap j3
          refine ⟨_, run_beginRound j3 rfl, ?_⟩
          have g2' := g2.putO (o := .lrec .busy none st n fn ps assign body D) (ob := .loop { state := .busy, pending := none, fn, tmps := tmps1, params := ps, assign, body, defers := D }) hL1 (by rw [g6]; simp) (.lrec hs1 hrt1) hlt1
          have h2 := g7 m.H m1 a1 _ g2' g3 g4
          refine wpIn_mono (F := Fw (some L.b)) h2 ?_
          intro e2 a2 w2 hp2
          have fin : ∀ (jump : Option Code) (v : Bool) (m2 : Mu) (S2 : Store), m1.le m2 → Rel m2 S2 w2 → (∀ y ∈ m.H, y ∈ m2.H) → S2 t = some (.lrec .busy none st n fn ps assign body D) → v = jump.isNone → K (.lit (.bool v)) (S2.set t (.lrec (if jump.isNone then .ready else .done) jump st n fn ps assign body D)) →
              ∃ u w', (Instr.endRound L.b jump).run P w2 = .ok u w' ∧ ∃ v, Ending.returned u = .returned v ∧ effR m K v w' := by
            intro jump v m2 S2 q1 q2 q3 q4 q5 q6
            have hL2 := q1.loc _ _ hL1
            obtain ⟨_, _, ob2, i3, i4⟩ := q2.owned t _ L q4 hL2
            cases i4 with
            | lrec hs2 hrt2 =>
              rename_i tmps2
              have hlt2 := lt_of_heap i3
              refine ⟨_, _, run_endRound jump i3, _, rfl, _, _, { m2 with H := m.H }, q6, ?_, rfl, ?_, ?_⟩
              · have := g1.trans q1
                exact ⟨this.loc, this.Z, this.os, this.out, this.tape⟩
              · exact (q2.putO (o := .lrec (if jump.isNone then .ready else .done) jump st n fn ps assign body D) hL2 (by rw [q4]; simp) (.lrec hs2 hrt2) hlt2).hsub q3
              · rw [q5]; exact .lit _ rfl
          have hsubH : ∀ m2 : Mu, Dfr m.H m2 a2 → ∀ y ∈ m.H, y ∈ m2.H := fun m2 ⟨Ds, _, hDH⟩ y hy => by rw [hDH]; exact List.mem_append_right _ hy
          cases e2 with
          | normal =>
            obtain ⟨m2, st2, S2, q1, q2, q3, q4, q5, q6⟩ := hp2
            exact fin none true m2 S2 q1 q2 (hsubH m2 q4) q5 rfl q6
          | ret =>
            obtain ⟨m2, st2, S2, q1, q2, q3, q4, q5, q6⟩ := hp2
            exact fin (some .ret) false m2 S2 q1 q2 (hsubH m2 q4) q5 rfl q6
          | exit i =>
            obtain ⟨m2, st2, S2, q1, q2, q3, q4, q5, q6⟩ := hp2
            exact fin (some (.exit i)) false m2 S2 q1 q2 (hsubH m2 q4) q5 rfl q6
          | goto l => obtain ⟨m2, st2, S2, q1, q2, q3, q4, q5, q6⟩ := hp2; exact q6.elim
          | panic c => exact hp2.elim
          | outgrown => exact hp2.elim
      | ret => obtain ⟨m1, st1, S1, g1, g2, g3, g4, g5, g6⟩ := hp; cases g5
      | exit i => obtain ⟨m1, st1, S1, g1, g2, g3, g4, g5, g6⟩ := hp; cases g5
      | goto l => obtain ⟨m1, st1, S1, g1, g2, g3, g4, g5, g6⟩ := hp; cases g5
      | panic c => exact hp.elim
      | outgrown => exact hp.elim
theorem RelT.set1 {m : Mu} {n : Nat} {st : St} {tmps : Array Value} (h : RelT m n st tmps) (p : Nat) {x : AV} {v : Value} (hv : RelV m x v) : RelT m n (fun i => if i = p then x else st i) (tmps.setIfInBounds p v) := by
  refine ⟨by simp [h.1], fun i hi => ?_⟩
  by_cases e : i = p
  · subst e
    have : (tmps.setIfInBounds i v).getD i undef = v := by simp [Array.getD, h.1, hi]
    simp only [if_true, this]
    exact hv
  · have : (tmps.setIfInBounds p v).getD i undef = tmps.getD i undef := by
      simp only [Array.getD_eq_getD_getElem?]
      rw [Array.getElem?_setIfInBounds_ne (Ne.symm e)]
    simp only [if_neg e, this]
    exact h.2 i hi
theorem yield_pt {P : Program} {t : Nat} {x : AV} {S : Store} {K : AV → Store → Prop} {st : St} {n : Nat} {fn : FuncId} {p : Nat} {assign body : Code} {D : Nat}
    (hS : S t = some (.lrec .ready none st n fn #[p] assign body D))
    (h : ∀ l, AWp P (some l) n assign (asgK P l n body t (fun s q => .lrec s q st n fn #[p] assign body D) K) (fun i => if i = p then x else st i) S) : callW P (.yield t) [x] S K := by
  refine yield_core hS rfl (fun m tmps args' ha ht => ?_) h
  obtain ⟨v, rfl⟩ : ∃ v, args' = #[v] := by
    have h1 := ha.1
    match args', h1 with
    | ⟨[v]⟩, _ => exact ⟨v, rfl⟩
  have hv := ha.2 0 (by simp)
  have := ht.set1 p (v := v) (by simpa [Array.getD] using hv)
  simpa using this
end Go.Du
namespace Go.Du
open Go
set_option maxRecDepth 1000000
section
open Go.Proofs
variable {S : Store} {Q : QT} {K : AK} {t0 t1 t2 t3 t4 t5 t6 t7 t8 : AV}
noncomputable def f357_a1 : Ann := .two (rg 1 0 0) (.two (rg 1 0 0) (.two (.two (rg 1 0 0) (.one (.loop [0, 3, 4]))) (.two (rg 4 4 2) (.nil))))
noncomputable def f357_c1 : Code := (cl (cl (cr (cl (cr (cr (bodyOf Tryz.f357)))))))
noncomputable def f357_c2 : Code := (cr (cr (cr (bodyOf Tryz.f357))))
def f357_L1 (K : AK) (t0 t3 t4 : AV) (S : Store) : Prop := AI PR none 27 [.code f357_c1, .inLoop f357_c1] K (ofL [(0, t0), (3, t3), (4, t4)]) S
def f357_l1 (K : AK) (t0 t3 t4 : AV) (S : Store) : Prop := bQ (aln .str t0 S) fun t7 => bQ (abi .lss t4 t7) fun t8 => condW t8 (bQ (aixS t0 t4) fun t14 => bQ (frzOf (bslR true 1 5 1 1 1 [(0, t14)])) fun t15 => apW (some (5, 1, 1, .slice)) t3 t15 S fun t16 S_1 => bQ (aixS t0 t4) fun t19 => bQ (abi .eql t19 (uv 0)) fun t20 => condW t20 (bQ (frzOf (bslR true 1 5 1 1 1 [(0, uv 255)])) fun t22 => apW (some (5, 1, 1, .slice)) t16 t22 S_1 fun t23 S_2 => bQ (abi .add t4 (iv 1)) fun t10 => f357_L1 K t0 t23 t10 S_2) (bQ (abi .add t4 (iv 1)) fun t10_1 => f357_L1 K t0 t16 t10_1 S_1)) (K (.exit 0) (ofL [(3, t3)]) S)
theorem f357_L1_pt : f357_l1 K t0 t3 t4 S → f357_L1 K t0 t3 t4 S := fun h => pL (.two (.two (rg 4 0 0) (.two (.nil) (.nil))) (.two (.one (.two (rg 7 32 16) (.two (rg 4 0 0) (.two (rg 4 4 2) (.nil))))) (rg 3 0 0))) [0, 3, 4] [3] h
noncomputable def f357_K1 (Q : QT) : AK := (AK.block 0 (AK.andThen (fun st S => W PR none 27 f357_c2 ((ar (ar (ar f357_a1)))) (retK PR Tryz.f357 (dropQ Q)) st S) (retK PR Tryz.f357 (dropQ Q))))
def f357_K1_e0 (Q : QT) (t3 : AV) (S : Store) : Prop := bQ (frzOf (bslR true 1 5 1 2 2 [(0, uv 0), (1, uv 1)])) fun t25 => apW (some (5, 1, 1, .slice)) t3 t25 S fun t26 S_1 => dropQ Q t26 S_1
theorem f357_K1_e0_pt : f357_K1_e0 Q t3 S → f357_K1 Q (.exit 0) (ofL [(3, t3)]) S := castP (by kernel_rfl)
def f357_s (t0 : AV) (S : Store) (Q : QT) : Prop := f357_L1 (f357_K1 Q) t0 nilS (iv 0) S
theorem f357_ok : f357_s t0 S Q → ATriple PR 357 [t0] S Q := fun h => pF (fn := Tryz.f357) f357_a1 h
attribute [irreducible] f357_L1 f357_K1
noncomputable def f358_a1 : Ann := .two (rg 1 0 0) (.two (rg 2 1 0) (.two (rg 3 0 0) (.join [0, 3, 4] (.two (rg 1 0 0) (.two (rg 4 0 0) (.nil))) (.two (.two (rg 1 0 0) (.one (.loop [0, 3, 4, 5]))) (.two (.two (rg 2 0 0) (.two (rg 7 64 0) (.nil))) (.two (rg 2 0 0) (.nil)))))))
noncomputable def f358_c1 : Code := (cr (cr (cr (cr (bodyOf Tryz.f358)))))
noncomputable def f358_c2 : Code := (cl (cl (cr (cl (cr (cr (cr (cr (bodyOf Tryz.f358)))))))))
noncomputable def f358_c3 : Code := (cr (cr (cr (cr (cr (bodyOf Tryz.f358))))))
def f358_J1 (Q : QT) (t0 t3 t4 : AV) (S : Store) : Prop := AWp PR none 34 f358_c1 (retK PR Tryz.f358 (dropQ Q)) (ofL [(0, t0), (3, t3), (4, t4)]) S
def f358_L2 (K : AK) (t0 t3 t4 t5 : AV) (S : Store) : Prop := AI PR none 34 [.code f358_c2, .inLoop f358_c2] K (ofL [(0, t0), (3, t3), (4, t4), (5, t5)]) S
def f358_l2 (K : AK) (t0 t3 t4 t5 : AV) (S : Store) : Prop := bQ (abi .geq t5 (iv 0)) fun t14 => condW t14 (bQ (abi .rem t0 (iv 256)) fun t20 => bQ (acv (.int .u8) t20 S) fun t21 => bQ (ixA 1 t3 t5 S) fun t22 => thenS (stv 1 t22 t21 S) fun _ S_1 => bQ (abi .quo t0 (iv 256)) fun t24 => bQ (abi .sub t5 (iv 1)) fun t16 => f358_L2 K t24 t3 t4 t16 S_1) (K (.exit 0) (ofL [(3, t3), (4, t4)]) S)
theorem f358_L2_pt : f358_l2 K t0 t3 t4 t5 S → f358_L2 K t0 t3 t4 t5 S := fun h => pL (.two (.two (rg 2 0 0) (.two (.nil) (.nil))) (.two (.one (.two (rg 7 64 0) (rg 3 0 0))) (rg 3 0 0))) [0, 3, 4, 5] [3, 4] h
noncomputable def f358_K1 (Q : QT) : AK := (AK.block 0 (AK.andThen (fun st S => W PR none 34 f358_c3 ((ar (ar (ar (ar (ar f358_a1)))))) (retK PR Tryz.f358 (dropQ Q)) st S) (retK PR Tryz.f358 (dropQ Q))))
def f358_K1_e0 (Q : QT) (t3 t4 : AV) (S : Store) : Prop := bQ (aun .not t4) fun t26 => condW t26 (bQ (ixA 1 t3 (iv 0) S) fun t29 => bQ (ldv false 1 t29 S) fun t30 => bQ (abi .add t30 (uv 128)) fun t31 => bQ (ixA 1 t3 (iv 0) S) fun t32 => thenS (stv 1 t32 t31 S) fun _ S_1 => dropQ Q t3 S_1) (dropQ Q t3 S)
theorem f358_K1_e0_pt : f358_K1_e0 Q t3 t4 S → f358_K1 Q (.exit 0) (ofL [(3, t3), (4, t4)]) S := castP (by kernel_rfl)
def f358_j1 (Q : QT) (t0 t3 t4 : AV) (S : Store) : Prop := f358_L2 (f358_K1 Q) t0 t3 t4 (iv 7) S
theorem f358_J1_pt : f358_j1 Q t0 t3 t4 S → f358_J1 Q t0 t3 t4 S := fun h => pJ ((ar (ar (ar (ar f358_a1))))) h
def f358_s (t0 : AV) (S : Store) (Q : QT) : Prop := newW (some (.own (.row 5 1 (List.replicate 8 [uv 0])) fun u => .sref u 0 8)) S fun t6 S_1 => bQ (abi .lss t0 (iv 0)) fun t8 => condW t8 (bQ (abi .add t0 (iv 9223372036854775807)) fun t11 => bQ (abi .add t11 (iv 1)) fun t12 => f358_J1 Q t12 t6 t8 S_1) (f358_J1 Q t0 t6 t8 S_1)
theorem f358_ok : f358_s t0 S Q → ATriple PR 358 [t0] S Q := fun h => pF (fn := Tryz.f358) f358_a1 h
attribute [irreducible] f358_J1 f358_L2 f358_K1
noncomputable def f220_a1 : Ann := .two (rg 1 0 0) (.two (rg 1 0 0) (.two (.two (rg 1 0 0) (.one (.loop [0, 3, 4]))) (.two (rg 2 0 0) (.nil))))
noncomputable def f220_c1 : Code := (cl (cl (cr (cl (cr (cr (bodyOf Tryz.f220)))))))
noncomputable def f220_c2 : Code := (cr (cr (cr (bodyOf Tryz.f220))))
def f220_L1 (K : AK) (t0 t3 t4 : AV) (S : Store) : Prop := AI PR none 39 [.code f220_c1, .inLoop f220_c1] K (ofL [(0, t0), (3, t3), (4, t4)]) S
def f220_l1 (K : AK) (t0 t3 t4 : AV) (S : Store) : Prop := bQ (aln .slice t0 S) fun t7 => bQ (abi .lss t4 t7) fun t8 => condW t8 (bQ (ixA 3 t0 t4 S) fun t13 => bQ (padd t13 0) fun t14 => bQ (ldv false 1 t14 S) fun t15 => condW t15 (bQ (frzOf (bslR true 1 5 1 1 1 [(0, uv 2)])) fun t17 => apW (some (5, 1, 1, .slice)) t3 t17 S fun t18 S_1 => bQ (ixA 3 t0 t4 S_1) fun t22 => bQ (padd t22 2) fun t23 => bQ (ldv false 1 t23 S_1) fun t24 => ATriple PR 357 [t24] S_1 fun t25 S_2 => apW (some (5, 1, 1, .slice)) t18 t25 S_2 fun t26 S_3 => bQ (abi .add t4 (iv 1)) fun t10 => f220_L1 K t0 t26 t10 S_3) (bQ (frzOf (bslR true 1 5 1 1 1 [(0, uv 1)])) fun t28 => apW (some (5, 1, 1, .slice)) t3 t28 S fun t29 S_4 => bQ (ixA 3 t0 t4 S_4) fun t33 => bQ (padd t33 1) fun t34 => bQ (ldv false 1 t34 S_4) fun t35 => ATriple PR 358 [t35] S_4 fun t36 S_5 => apW (some (5, 1, 1, .slice)) t29 t36 S_5 fun t37 S_6 => bQ (abi .add t4 (iv 1)) fun t10_1 => f220_L1 K t0 t37 t10_1 S_6)) (K (.exit 0) (ofL [(3, t3)]) S)
theorem f220_L1_pt : f220_l1 K t0 t3 t4 S → f220_L1 K t0 t3 t4 S := fun h => pL (.two (.two (rg 4 0 0) (.two (.nil) (.nil))) (.two (.one (.two (rg 5 0 0) (.two (.two (rg 4 4 2) (rg 9 192 0)) (.two (rg 4 4 2) (rg 9 192 0))))) (rg 3 0 0))) [0, 3, 4] [3] h
noncomputable def f220_K1 (Q : QT) : AK := (AK.block 0 (AK.andThen (fun st S => W PR none 39 f220_c2 ((ar (ar (ar f220_a1)))) (retK PR Tryz.f220 (dropQ Q)) st S) (retK PR Tryz.f220 (dropQ Q))))
def f220_K1_e0 (Q : QT) (t3 : AV) (S : Store) : Prop := dropQ Q t3 S
theorem f220_K1_e0_pt : f220_K1_e0 Q t3 S → f220_K1 Q (.exit 0) (ofL [(3, t3)]) S := castP (by kernel_rfl)
def f220_s (t0 : AV) (S : Store) (Q : QT) : Prop := f220_L1 (f220_K1 Q) t0 nilS (iv 0) S
theorem f220_ok : f220_s t0 S Q → ATriple PR 220 [t0] S Q := fun h => pF (fn := Tryz.f220) f220_a1 h
attribute [irreducible] f220_L1 f220_K1
def f88_s (t0 t1 : AV) (S : Store) (Q : QT) : Prop := bQ (abld [bv false, iv 0, .lit (.string ⟨#[]⟩)] [(1, 1, t0)]) fun t6 => bQ (abld [bv false, iv 0, .lit (.string ⟨#[]⟩)] [(0, 1, bv true), (2, 1, t1)]) fun t8 => bQ (frzOf (bslR true 3 296 3 2 2 [(0, t6), (1, t8)])) fun t9 => ATriple PR 220 [t9] S fun t10 S_1 => bQ (acv .bytes t10 S_1) fun t11 => dropQ Q t11 S_1
theorem f88_ok : f88_s t0 t1 S Q → ATriple PR 88 [t0, t1] S Q := fun h => pF (fn := Tryz.f88) (.two (rg 1 0 0) (.two (rg 8 32 16) (.nil))) h
noncomputable def f477_a1 : Ann := .two (rg 1 0 0) (.two (rg 6 0 0) (.two (.two (rg 1 0 0) (.one (.loop [0, 3, 4]))) (.two (.two (rg 4 0 0) (.two (rg 4 0 0) (.nil))) (.two (rg 2 0 0) (.nil)))))
noncomputable def f477_c1 : Code := (cl (cl (cr (cl (cr (cr (bodyOf Tryz.f477)))))))
noncomputable def f477_c2 : Code := (cr (cr (cr (bodyOf Tryz.f477))))
def f477_L1 (K : AK) (t0 t3 t4 : AV) (S : Store) : Prop := AI PR none 30 [.code f477_c1, .inLoop f477_c1] K (ofL [(0, t0), (3, t3), (4, t4)]) S
def f477_l1 (K : AK) (t0 t3 t4 : AV) (S : Store) : Prop := bQ (abi .lss t4 (iv 8)) fun t11 => condW t11 (bQ (abi .mul (iv 256) t3) fun t15 => bQ (ixA 1 t0 t4 S) fun t18 => bQ (ldv false 1 t18 S) fun t19 => bQ (acv (.int .i64) t19 S) fun t20 => bQ (abi .add t15 t20) fun t21 => bQ (abi .add t4 (iv 1)) fun t13 => f477_L1 K t0 t21 t13 S) (K (.exit 0) (ofL [(0, t0), (3, t3)]) S)
theorem f477_L1_pt : f477_l1 K t0 t3 t4 S → f477_L1 K t0 t3 t4 S := fun h => pL (.two (.two (rg 2 0 0) (.two (.nil) (.nil))) (.two (.one (rg 9 0 0)) (rg 3 0 0))) [0, 3, 4] [0, 3] h
noncomputable def f477_K1 (Q : QT) : AK := (AK.block 0 (AK.andThen (fun st S => W PR none 30 f477_c2 ((ar (ar (ar f477_a1)))) (retK PR Tryz.f477 (dropQ Q)) st S) (retK PR Tryz.f477 (dropQ Q))))
def f477_K1_e0 (Q : QT) (t0 t3 : AV) (S : Store) : Prop := bQ (ixA 1 t0 (iv 0) S) fun t23 => bQ (ldv false 1 t23 S) fun t24 => bQ (abi .lss t24 (uv 128)) fun t25 => condW t25 (bQ (abi .sub t3 (iv 9223372036854775807)) fun t27 => bQ (abi .sub t27 (iv 1)) fun t28 => dropQ Q t28 S) (dropQ Q t3 S)
theorem f477_K1_e0_pt : f477_K1_e0 Q t0 t3 S → f477_K1 Q (.exit 0) (ofL [(0, t0), (3, t3)]) S := castP (by kernel_rfl)
def f477_s (t0 : AV) (S : Store) (Q : QT) : Prop := bQ (ixA 1 t0 (iv 0) S) fun t6 => bQ (ldv false 1 t6 S) fun t7 => bQ (acv (.int .i64) t7 S) fun t8 => bQ (abi .rem t8 (iv 128)) fun t9 => f477_L1 (f477_K1 Q) t0 t9 (iv 1) S
theorem f477_ok : f477_s t0 S Q → ATriple PR 477 [t0] S Q := fun h => pF (fn := Tryz.f477) f477_a1 h
attribute [irreducible] f477_L1 f477_K1
noncomputable def f417_a1 : Ann := .two (rg 2 0 0) (.two (rg 1 0 0) (.two (rg 1 0 0) (.two (.one (.loop [0, 4, 5])) (.two (rg 3 0 0) (.nil)))))
noncomputable def f417_c1 : Code := (cl (cl (cl (cr (cr (cr (bodyOf Tryz.f417)))))))
noncomputable def f417_a2 : Ann := .two (.two (rg 4 0 0) (.two (.nil) (.nil))) (.one (.two (rg 5 0 0) (.two (rg 3 0 0) (.two (.two (rg 2 0 0) (.two (.two (.two (rg 5 0 0) (.two (.two (rg 2 0 0) (.nil)) (.nil))) (.two (rg 11 576 256) (.two (rg 3 0 0) (.nil)))) (.nil))) (.two (.two (rg 2 0 0) (.two (.two (rg 2 0 0) (.nil)) (.nil))) (.two (rg 1 0 0) (.two (rg 1 0 0) (.two (.one (.loop [0, 4, 5, 7, 8])) (rg 7 32 16)))))))))
noncomputable def f417_c2 : Code := (cl (cl (cl (cr (cr (cr (cr (cr (cr (cl (cr (cl (cl (cl (cr (cr (cr (bodyOf Tryz.f417))))))))))))))))))
noncomputable def f417_c3 : Code := (cr (cr (cr (cr (cr (cr (cr (cl (cr (cl (cl (cl (cr (cr (cr (bodyOf Tryz.f417))))))))))))))))
noncomputable def f417_c4 : Code := (cr (cr (cr (cr (bodyOf Tryz.f417)))))
def f417_L1 (K : AK) (t0 t4 t5 : AV) (S : Store) : Prop := AI PR none 108 [.code f417_c1, .inLoop f417_c1] K (ofL [(0, t0), (4, t4), (5, t5)]) S
def f417_L2 (K : AK) (t0 t4 t5 t7 t8 : AV) (S : Store) : Prop := AI PR none 108 [.code f417_c2, .inLoop f417_c2] K (ofL [(0, t0), (4, t4), (5, t5), (7, t7), (8, t8)]) S
def f417_l2 (K : AK) (t0 t4 t5 t7 t8 : AV) (S : Store) : Prop := bQ (aun .not t8) fun t41 => condW t41 (bQ (aln .slice t0 S) fun t44 => bQ (abi .geq t5 t44) fun t45 => gdQ t45 false (some t0) fun t47 => gdQ t45 false (some t5) fun t48 => gdQ t45 false (ixA 1 t47 t48 S) fun t49 => gdQ t45 false (ldv false 1 t49 S) fun t50 => gdQ t45 false (abi .eql t50 (uv 0)) fun t51 => gdQ t45 false (some t51) fun t52 => gdQ t52 true (some t5) fun t53 => gdQ t52 true (abi .add t53 (iv 1)) fun t54 => gdQ t52 true (some t0) fun t55 => gdQ t52 true (aln .slice t55 S) fun t56 => gdQ t52 true (abi .geq t54 t56) fun t57 => gdQ t45 false (apick t52 t57 (bv false)) fun t58 => bQ (apick t45 (bv true) t58) fun t59 => condW t59 (K .ret (ofL [(0, t0), (2, nilS), (3, iv 3), (4, t4), (5, t5), (7, t7)]) S) (bQ (ixA 1 t0 t5 S) fun t62 => bQ (ldv false 1 t62 S) fun t63 => bQ (abi .neq t63 (uv 0)) fun t64 => condW t64 (bQ (ixA 1 t0 t5 S) fun t68 => bQ (ldv false 1 t68 S) fun t69 => bQ (frzOf (bslR true 1 5 1 1 1 [(0, t69)])) fun t70 => apW (some (5, 1, 1, .slice)) t7 t70 S fun t71 S_1 => bQ (abi .add t5 (iv 1)) fun t73 => f417_L2 K t0 t4 t73 t71 t8 S_1) (bQ (abi .add t5 (iv 1)) fun t76 => bQ (ixA 1 t0 t76 S) fun t77 => bQ (ldv false 1 t77 S) fun t78 => bQ (abi .neq t78 (uv 255)) fun t79 => gdQ t79 true (some t0) fun t81 => gdQ t79 true (some t5) fun t82 => gdQ t79 true (abi .add t82 (iv 1)) fun t83 => gdQ t79 true (ixA 1 t81 t83 S) fun t84 => gdQ t79 true (ldv false 1 t84 S) fun t85 => gdQ t79 true (abi .neq t85 (uv 1)) fun t86 => bQ (apick t79 t86 (bv false)) fun t87 => condW t87 (K .ret (ofL [(0, t0), (2, nilS), (3, iv 2), (4, t4), (5, t5), (7, t7)]) S) (bQ (abi .add t5 (iv 1)) fun t90 => bQ (ixA 1 t0 t90 S) fun t91 => bQ (ldv false 1 t91 S) fun t92 => bQ (abi .eql t92 (uv 1)) fun t93 => bQ (aun .not t93) fun t95 => condW t95 (bQ (frzOf (bslR true 1 5 1 1 1 [(0, uv 0)])) fun t97 => apW (some (5, 1, 1, .slice)) t7 t97 S fun t98 S_2 => bQ (abi .add t5 (iv 2)) fun t100 => f417_L2 K t0 t4 t100 t98 t93 S_2) (bQ (abi .add t5 (iv 2)) fun t100_1 => f417_L2 K t0 t4 t100_1 t7 t93 S))))) (K (.exit 2) (ofL [(0, t0), (2, .poison), (3, .poison), (4, t4), (5, t5), (7, t7)]) S)
theorem f417_L2_pt : f417_l2 K t0 t4 t5 t7 t8 S → f417_L2 K t0 t4 t5 t7 t8 S := fun h => pL (.two (.two (rg 2 0 0) (.two (.nil) (.nil))) (.one (.two (.two (rg 18 0 0) (.two (.two (rg 2 0 0) (.nil)) (.nil))) (.two (.two (rg 5 0 0) (.two (.two (rg 8 64 32) (.two (rg 3 0 0) (.nil))) (.nil))) (.two (.two (rg 14 0 0) (.two (.two (rg 2 0 0) (.nil)) (.nil))) (.two (rg 7 0 0) (.two (.two (rg 2 0 0) (.two (rg 4 4 2) (.nil))) (rg 3 0 0)))))))) [0, 4, 5, 7, 8] [0, 2, 3, 4, 5, 7] h
noncomputable def f417_K1 (K : AK) : AK := (AK.block 2 (AK.andThen (fun st S => W PR none 108 f417_c3 ((ar (ar (ar (ar (ar (ar (ar (al (ar f417_a2)))))))))) (AK.block 1 (AK.andThen (fun st S => AI PR none 108 [.code f417_c1, .inLoop f417_c1] K (mask [0, 4, 5] st) S) (mskK [2, 3, 4] K))) st S) (AK.block 1 (AK.andThen (fun st S => AI PR none 108 [.code f417_c1, .inLoop f417_c1] K (mask [0, 4, 5] st) S) (mskK [2, 3, 4] K)))))
def f417_K1_e2 (K : AK) (t0 t2 t3 t4 t5 t7 : AV) (S : Store) : Prop := bQ (acv .bytes t7 S) fun t103 => bQ (abld [bv false, iv 0, .lit (.string ⟨#[]⟩)] [(0, 1, bv true), (2, 1, t103)]) fun t104 => bQ (frzOf (bslR true 3 296 3 1 1 [(0, t104)])) fun t105 => apW (some (296, 3, 32, .slice)) t4 t105 S fun t106 S_1 => f417_L1 K t0 t106 t5 S_1
theorem f417_K1_e2_pt : f417_K1_e2 K t0 t2 t3 t4 t5 t7 S → f417_K1 K (.exit 2) (ofL [(0, t0), (2, t2), (3, t3), (4, t4), (5, t5), (7, t7)]) S := castP (by kernel_rfl)
def f417_K1_ret (K : AK) (t0 t2 t3 t4 t5 t7 : AV) (S : Store) : Prop := K .ret (ofL [(2, t2), (3, t3), (4, t4)]) S
theorem f417_K1_ret_pt : f417_K1_ret K t0 t2 t3 t4 t5 t7 S → f417_K1 K .ret (ofL [(0, t0), (2, t2), (3, t3), (4, t4), (5, t5), (7, t7)]) S := castP (by kernel_rfl)
def f417_l1 (K : AK) (t0 t4 t5 : AV) (S : Store) : Prop := bQ (aln .slice t0 S) fun t11 => bQ (abi .lss t5 t11) fun t12 => condW t12 (bQ (ixA 1 t0 t5 S) fun t15 => bQ (ldv false 1 t15 S) fun t16 => bQ (abi .add t5 (iv 1)) fun t18 => bQ (abi .eql t16 (uv 1)) fun t20 => condW t20 (bQ (abi .add t18 (iv 8)) fun t22 => bQ (aln .slice t0 S) fun t24 => bQ (abi .gtr t22 t24) fun t25 => condW t25 (K .ret (ofL [(2, nilS), (3, iv 3), (4, t4)]) S) (bQ (abi .add t18 (iv 8)) fun t30 => bQ (sliceV 1 t0 (some t18) (some t30) none S) fun t31 => ATriple PR 477 [t31] S fun t32 S_1 => bQ (abld [bv false, iv 0, .lit (.string ⟨#[]⟩)] [(1, 1, t32)]) fun t33 => bQ (frzOf (bslR true 3 296 3 1 1 [(0, t33)])) fun t34 => apW (some (296, 3, 32, .slice)) t4 t34 S_1 fun t35 S_2 => bQ (abi .add t18 (iv 8)) fun t37 => f417_L1 K t0 t35 t37 S_2)) (bQ (abi .neq t16 (uv 2)) fun t39 => condW t39 (K .ret (ofL [(2, nilS), (3, iv 2), (4, t4)]) S) (f417_L2 (f417_K1 K) t0 t4 t18 nilS (bv false) S))) (K (.exit 0) (ofL [(2, .poison), (3, .poison), (4, t4)]) S)
theorem f417_L1_pt : f417_l1 K t0 t4 t5 S → f417_L1 K t0 t4 t5 S := fun h => pL f417_a2 [0, 4, 5] [2, 3, 4] h
noncomputable def f417_K2 (Q : QT) : AK := (AK.block 0 (AK.andThen (fun st S => W PR none 108 f417_c4 ((ar (ar (ar (ar f417_a1))))) (retK PR Tryz.f417 (dropQ Q)) st S) (retK PR Tryz.f417 (dropQ Q))))
def f417_K2_e0 (Q : QT) (t2 t3 t4 : AV) (S : Store) : Prop := dropQ Q (.tuple [t4, iv 0]) S
theorem f417_K2_e0_pt : f417_K2_e0 Q t2 t3 t4 S → f417_K2 Q (.exit 0) (ofL [(2, t2), (3, t3), (4, t4)]) S := castP (by kernel_rfl)
def f417_K2_ret (Q : QT) (t2 t3 t4 : AV) (S : Store) : Prop := dropQ Q (.tuple [t2, t3]) S
theorem f417_K2_ret_pt : f417_K2_ret Q t2 t3 t4 S → f417_K2 Q .ret (ofL [(2, t2), (3, t3), (4, t4)]) S := castP (by kernel_rfl)
def f417_s (t0 : AV) (S : Store) (Q : QT) : Prop := f417_L1 (f417_K2 Q) t0 nilS (iv 0) S
theorem f417_ok : f417_s t0 S Q → ATriple PR 417 [t0] S Q := fun h => pF (fn := Tryz.f417) f417_a1 h
attribute [irreducible] f417_L1 f417_L2 f417_K1 f417_K2
def f309_s (t0 : AV) (S : Store) (Q : QT) : Prop := bQ (frzOf (strR t0)) fun t9 => ATriple PR 417 [t9] S fun t10 S_1 => bQ (aext t10 0) fun t11 => bQ (aext t10 1) fun t12 => bQ (abi .neq t12 (iv 0)) fun t14 => condW t14 (dropQ Q (.tuple [iv 0, .lit (.string ⟨#[]⟩), t12]) S_1) (bQ (aln .slice t11 S_1) fun t17 => bQ (abi .neq t17 (iv 2)) fun t18 => gdQ t18 false (some t11) fun t20 => gdQ t18 false (ixA 3 t20 (iv 0) S_1) fun t21 => gdQ t18 false (padd t21 0) fun t22 => gdQ t18 false (ldv false 1 t22 S_1) fun t23 => bQ (apick t18 (bv true) t23) fun t24 => gdQ t24 false (some t11) fun t26 => gdQ t24 false (ixA 3 t26 (iv 1) S_1) fun t27 => gdQ t24 false (padd t27 0) fun t28 => gdQ t24 false (ldv false 1 t28 S_1) fun t29 => gdQ t24 false (aun .not t29) fun t30 => bQ (apick t24 (bv true) t30) fun t31 => gdQ t31 false (some t11) fun t33 => gdQ t31 false (ixA 3 t33 (iv 0) S_1) fun t34 => gdQ t31 false (padd t34 1) fun t35 => gdQ t31 false (ldv false 1 t35 S_1) fun t36 => gdQ t31 false (abi .lss t36 (iv 0)) fun t37 => bQ (apick t31 (bv true) t37) fun t38 => gdQ t38 false (some t11) fun t40 => gdQ t38 false (ixA 3 t40 (iv 0) S_1) fun t41 => gdQ t38 false (padd t41 1) fun t42 => gdQ t38 false (ldv false 1 t42 S_1) fun t43 => gdQ t38 false (abi .gtr t43 (iv 3)) fun t44 => bQ (apick t38 (bv true) t44) fun t45 => gdQ t45 false (some t11) fun t47 => gdQ t45 false (ixA 3 t47 (iv 1) S_1) fun t48 => gdQ t45 false (padd t48 2) fun t49 => gdQ t45 false (ldv false 1 t49 S_1) fun t50 => gdQ t45 false (aln .str t50 S_1) fun t51 => gdQ t45 false (abi .gtr t51 (iv 40)) fun t52 => bQ (apick t45 (bv true) t52) fun t53 => condW t53 (dropQ Q (.tuple [iv 0, .lit (.string ⟨#[]⟩), iv 2]) S_1) (bQ (ixA 3 t11 (iv 0) S_1) fun t55 => bQ (padd t55 1) fun t56 => bQ (ldv false 1 t56 S_1) fun t57 => bQ (ixA 3 t11 (iv 1) S_1) fun t59 => bQ (padd t59 2) fun t60 => bQ (ldv false 1 t60 S_1) fun t61 => dropQ Q (.tuple [t57, t61, iv 0]) S_1))
theorem f309_ok : f309_s t0 S Q → ATriple PR 309 [t0] S Q := fun h => pF (fn := Tryz.f309) (.two (rg 3 0 0) (.two (rg 8 4 0) (.two (.two (rg 2 0 0) (.two (.two (rg 4 0 0) (.nil)) (.nil))) (.two (.two (rg 38 0 0) (.two (.two (rg 3 0 0) (.nil)) (.nil))) (.two (.reg [0, 1, 3, 7, 0, 16, 48, 112, 15, 511, 1023] (pq 0 11 <| .done)) (.nil)))))) h
def f161_s (t0 : AV) (S : Store) (Q : QT) : Prop := bQ (frzOf (boxR true 90 t0)) fun t1 => bQ (padd t1 0) fun t3 => bQ (ldv false 1 t3 S) fun t4 => bQ (abi .leq (iv 0) t4) fun t5 => gdQ t5 true (padd t1 0) fun t7 => gdQ t5 true (ldv false 1 t7 S) fun t8 => gdQ t5 true (padd t1 1) fun t9 => gdQ t5 true (ldv false 1 t9 S) fun t10 => gdQ t5 true (abi .lss t8 t10) fun t11 => bQ (apick t5 t11 (bv false)) fun t12 => gdQ t12 true (padd t1 1) fun t14 => gdQ t12 true (ldv false 1 t14 S) fun t15 => gdQ t12 true (abi .leq t15 (iv 1099511627776)) fun t16 => bQ (apick t12 t16 (bv false)) fun t17 => dropQ Q t17 S
theorem f161_ok : f161_s t0 S Q → ATriple PR 161 [t0] S Q := fun h => pF (fn := Tryz.f161) (.two (rg 2 0 1) (.two (rg 16 0 0) (.nil))) h
noncomputable def f173_a1 : Ann := .two (rg 2 3 0) (.join [1, 2] (.two (rg 4 0 0) (.two (rg 5 16 0) (.nil))) (.two (.two (rg 4 0 0) (.two (rg 5 16 0) (.nil))) (.two (rg 2 2 0) (.nil))))
noncomputable def f173_c1 : Code := (cr (cr (bodyOf Tryz.f173)))
def f173_J1 (Q : QT) (t1 t2 : AV) (S : Store) : Prop := AWp PR none 20 f173_c1 (retK PR Tryz.f173 (dropQ Q)) (ofL [(1, t1), (2, t2)]) S
def f173_j1 (Q : QT) (t1 t2 : AV) (S : Store) : Prop := bQ (padd t1 6) fun t11 => bQ (ldv false 1 t11 S) fun t12 => bQ (aln .str t12 S) fun t13 => bQ (abi .gtr t13 (iv 210)) fun t14 => condW t14 (bQ (padd t1 6) fun t15 => bQ (ldv false 1 t15 S) fun t16 => bQ (sliceS t16 none (some (iv 210))) fun t17 => bQ (padd t1 6) fun t18 => thenS (stv 1 t18 t17 S) fun _ S_1 => bQ (ldv true 8 t1 S_1) fun t19 => thenS (stv 8 t2 t19 S_1) fun _ S_2 => retW (resC (ldv true 8 t2 S_2) (some [])) (dropQ Q) S_2) (bQ (ldv true 8 t1 S) fun t19_1 => thenS (stv 8 t2 t19_1 S) fun _ S_3 => retW (resC (ldv true 8 t2 S_3) (some [])) (dropQ Q) S_3)
theorem f173_J1_pt : f173_j1 Q t1 t2 S → f173_J1 Q t1 t2 S := fun h => pJ ((ar (ar f173_a1))) h
def f173_s (t0 : AV) (S : Store) (Q : QT) : Prop := newW (boxR false 112 t0) S fun t1 S_1 => newW (some (.own (.row 112 8 [[.lit (.string ⟨#[]⟩), iv 0, iv 0, iv 0, iv 0, iv 0, .lit (.string ⟨#[]⟩), bv false]]) fun u => .ptr u 0 0)) S_1 fun t2 S_2 => bQ (padd t1 0) fun t3 => bQ (ldv false 1 t3 S_2) fun t4 => bQ (aln .str t4 S_2) fun t5 => bQ (abi .gtr t5 (iv 110)) fun t6 => condW t6 (bQ (padd t1 0) fun t7 => bQ (ldv false 1 t7 S_2) fun t8 => bQ (sliceS t8 none (some (iv 110))) fun t9 => bQ (padd t1 0) fun t10 => thenS (stv 1 t10 t9 S_2) fun _ S_3 => f173_J1 Q t1 t2 S_3) (f173_J1 Q t1 t2 S_2)
theorem f173_ok : f173_s t0 S Q → ATriple PR 173 [t0] S Q := fun h => pF (fn := Tryz.f173) f173_a1 h
attribute [irreducible] f173_J1
def f174_s (t0 : AV) (S : Store) (Q : QT) : Prop := bQ (frzOf (boxR true 112 t0)) fun t1 => bQ (padd t1 0) fun t8 => bQ (ldv false 1 t8 S) fun t9 => ATriple PR 309 [t9] S fun t10 S_1 => bQ (aext t10 0) fun t11 => bQ (aext t10 1) fun t12 => bQ (aext t10 2) fun t13 => bQ (padd t1 4) fun t14 => bQ (ldv true 2 t14 S_1) fun t15 => ATriple PR 161 [t15] S_1 fun t16 S_2 => bQ (abi .neq t13 (iv 0)) fun t18 => gdQ t18 false (some t16) fun t20 => gdQ t18 false (aun .not t20) fun t21 => bQ (apick t18 (bv true) t21) fun t22 => gdQ t22 false (padd t1 6) fun t24 => gdQ t22 false (ldv false 1 t24 S_2) fun t25 => gdQ t22 false (aln .str t25 S_2) fun t26 => gdQ t22 false (abi .gtr t26 (iv 200)) fun t27 => bQ (apick t22 (bv true) t27) fun t28 => gdQ t28 false (padd t1 7) fun t30 => gdQ t28 false (ldv false 1 t30 S_2) fun t31 => gdQ t28 false (some t31) fun t32 => gdQ t32 true (padd t1 6) fun t33 => gdQ t32 true (ldv false 1 t33 S_2) fun t34 => gdQ t32 true (abi .neq t34 (.lit (.string ⟨#[]⟩))) fun t35 => gdQ t28 false (apick t32 t35 (bv false)) fun t36 => bQ (apick t28 (bv true) t36) fun t37 => condW t37 (dropQ Q (bv false) S_2) (bQ (padd t1 1) fun t38 => bQ (padd t38 0) fun t39 => bQ (ldv false 1 t39 S_2) fun t40 => bQ (abi .geq t40 (iv 0)) fun t41 => gdQ t41 true (padd t1 1) fun t43 => gdQ t41 true (padd t43 0) fun t44 => gdQ t41 true (ldv false 1 t44 S_2) fun t45 => gdQ t41 true (abi .leq t45 (iv 15)) fun t46 => bQ (apick t41 t46 (bv false)) fun t47 => gdQ t47 true (padd t1 1) fun t49 => gdQ t47 true (padd t49 1) fun t50 => gdQ t47 true (ldv false 1 t50 S_2) fun t51 => gdQ t47 true (abi .geq t51 (iv 1)) fun t52 => bQ (apick t47 t52 (bv false)) fun t53 => gdQ t53 true (padd t1 1) fun t55 => gdQ t53 true (padd t55 1) fun t56 => gdQ t53 true (ldv false 1 t56 S_2) fun t57 => gdQ t53 true (abi .leq t57 (iv 10000)) fun t58 => bQ (apick t53 t58 (bv false)) fun t59 => gdQ t59 true (padd t1 1) fun t61 => gdQ t59 true (padd t61 2) fun t62 => gdQ t59 true (ldv false 1 t62 S_2) fun t63 => gdQ t59 true (abi .geq t63 (iv 1)) fun t64 => bQ (apick t59 t64 (bv false)) fun t65 => gdQ t65 true (padd t1 1) fun t67 => gdQ t65 true (padd t67 2) fun t68 => gdQ t65 true (ldv false 1 t68 S_2) fun t69 => gdQ t65 true (abi .leq t69 (iv 100000)) fun t70 => bQ (apick t65 t70 (bv false)) fun t71 => dropQ Q t71 S_2)
theorem f174_ok : f174_s t0 S Q → ATriple PR 174 [t0] S Q := fun h => pF (fn := Tryz.f174) (.two (rg 2 0 1) (.two (rg 10 4 0) (.two (rg 4 4 0) (.two (.two (rg 21 0 0) (.two (.two (rg 1 0 0) (.nil)) (.nil))) (.two (rg 35 0 0) (.nil)))))) h
noncomputable def f61_a1 : Ann := .two (rg 1 0 0) (.two (rg 1 0 0) (.two (.two (rg 1 0 0) (.one (.loop [0, 1, 5, 6]))) (.two (rg 2 0 0) (.nil))))
noncomputable def f61_c1 : Code := (cl (cl (cr (cl (cr (cr (bodyOf Tryz.f61)))))))
noncomputable def f61_c2 : Code := (cr (cr (cr (bodyOf Tryz.f61))))
def f61_L1 (K : AK) (t0 t1 t5 t6 : AV) (S : Store) : Prop := AI PR none 34 [.code f61_c1, .inLoop f61_c1] K (ofL [(0, t0), (1, t1), (5, t5), (6, t6)]) S
def f61_l1 (K : AK) (t0 t1 t5 t6 : AV) (S : Store) : Prop := bQ (aln .slice t0 S) fun t11 => bQ (abi .lss t6 t11) fun t12 => gdQ t12 true (some t5) fun t14 => gdQ t12 true (aln .slice t14 S) fun t15 => gdQ t12 true (some t1) fun t16 => gdQ t12 true (abi .lss t15 t16) fun t17 => bQ (apick t12 t17 (bv false)) fun t18 => condW t18 (bQ (ixA 8 t0 t6 S) fun t23 => bQ (ldv true 8 t23 S) fun t24 => ATriple PR 173 [t24] S fun t25 S_1 => newW (some (.own (.row 112 8 [[.lit (.string ⟨#[]⟩), iv 0, iv 0, iv 0, iv 0, iv 0, .lit (.string ⟨#[]⟩), bv false]]) fun u => .ptr u 0 0)) S_1 fun t7 S_2 => thenS (stv 8 t7 t25 S_2) fun _ S_3 => bQ (ldv true 8 t7 S_3) fun t26 => ATriple PR 174 [t26] S_3 fun t27 S_4 => condW t27 (bQ (ldv true 8 t7 S_4) fun t30 => bQ (frzOf (bslR true 8 112 8 1 1 [(0, t30)])) fun t31 => apW (some (112, 8, 80, .slice)) t5 t31 S_4 fun t32 S_5 => bQ (abi .add t6 (iv 1)) fun t20 => f61_L1 K t0 t1 t32 t20 S_5) (bQ (abi .add t6 (iv 1)) fun t20_1 => f61_L1 K t0 t1 t5 t20_1 S_4)) (K (.exit 0) (ofL [(5, t5)]) S)
theorem f61_L1_pt : f61_l1 K t0 t1 t5 t6 S → f61_L1 K t0 t1 t5 t6 S := fun h => pL (.two (.two (rg 10 0 0) (.two (.nil) (.nil))) (.two (.one (.two (rg 7 112 0) (.two (rg 3 2 0) (.two (rg 1 0 0) (.two (rg 5 8 4) (.nil)))))) (rg 3 0 0))) [0, 1, 5, 6] [5] h
noncomputable def f61_K1 (Q : QT) : AK := (AK.block 0 (AK.andThen (fun st S => W PR none 34 f61_c2 ((ar (ar (ar f61_a1)))) (retK PR Tryz.f61 (dropQ Q)) st S) (retK PR Tryz.f61 (dropQ Q))))
def f61_K1_e0 (Q : QT) (t5 : AV) (S : Store) : Prop := dropQ Q t5 S
theorem f61_K1_e0_pt : f61_K1_e0 Q t5 S → f61_K1 Q (.exit 0) (ofL [(5, t5)]) S := castP (by kernel_rfl)
def f61_s (t0 t1 : AV) (S : Store) (Q : QT) : Prop := f61_L1 (f61_K1 Q) t0 t1 nilS (iv 0) S
theorem f61_ok : f61_s t0 t1 S Q → ATriple PR 61 [t0, t1] S Q := fun h => pF (fn := Tryz.f61) f61_a1 h
attribute [irreducible] f61_L1 f61_K1
def f62_s (t0 t1 : AV) (S : Store) (Q : QT) : Prop := bQ (frzOf (boxR true 112 t0)) fun t2 => bQ (frzOf (boxR true 112 t1)) fun t3 => bQ (padd t2 0) fun t5 => bQ (ldv false 1 t5 S) fun t6 => bQ (padd t3 0) fun t7 => bQ (ldv false 1 t7 S) fun t8 => bQ (abi .neq t6 t8) fun t9 => condW t9 (bQ (padd t2 0) fun t10 => bQ (ldv false 1 t10 S) fun t11 => bQ (padd t3 0) fun t12 => bQ (ldv false 1 t12 S) fun t13 => bQ (abi .lss t11 t13) fun t14 => dropQ Q t14 S) (bQ (padd t2 1) fun t15 => bQ (padd t15 0) fun t16 => bQ (ldv false 1 t16 S) fun t17 => bQ (padd t3 1) fun t18 => bQ (padd t18 0) fun t19 => bQ (ldv false 1 t19 S) fun t20 => bQ (abi .neq t17 t20) fun t21 => condW t21 (bQ (padd t2 1) fun t22 => bQ (padd t22 0) fun t23 => bQ (ldv false 1 t23 S) fun t24 => bQ (padd t3 1) fun t25 => bQ (padd t25 0) fun t26 => bQ (ldv false 1 t26 S) fun t27 => bQ (abi .lss t24 t27) fun t28 => dropQ Q t28 S) (bQ (padd t2 1) fun t29 => bQ (padd t29 1) fun t30 => bQ (ldv false 1 t30 S) fun t31 => bQ (padd t3 1) fun t32 => bQ (padd t32 1) fun t33 => bQ (ldv false 1 t33 S) fun t34 => bQ (abi .neq t31 t34) fun t35 => condW t35 (bQ (padd t2 1) fun t36 => bQ (padd t36 1) fun t37 => bQ (ldv false 1 t37 S) fun t38 => bQ (padd t3 1) fun t39 => bQ (padd t39 1) fun t40 => bQ (ldv false 1 t40 S) fun t41 => bQ (abi .lss t38 t41) fun t42 => dropQ Q t42 S) (bQ (padd t2 1) fun t43 => bQ (padd t43 2) fun t44 => bQ (ldv false 1 t44 S) fun t45 => bQ (padd t3 1) fun t46 => bQ (padd t46 2) fun t47 => bQ (ldv false 1 t47 S) fun t48 => bQ (abi .neq t45 t48) fun t49 => condW t49 (bQ (padd t2 1) fun t50 => bQ (padd t50 2) fun t51 => bQ (ldv false 1 t51 S) fun t52 => bQ (padd t3 1) fun t53 => bQ (padd t53 2) fun t54 => bQ (ldv false 1 t54 S) fun t55 => bQ (abi .lss t52 t55) fun t56 => dropQ Q t56 S) (bQ (padd t2 4) fun t57 => bQ (padd t57 0) fun t58 => bQ (ldv false 1 t58 S) fun t59 => bQ (padd t3 4) fun t60 => bQ (padd t60 0) fun t61 => bQ (ldv false 1 t61 S) fun t62 => bQ (abi .lss t59 t62) fun t63 => dropQ Q t63 S))))
theorem f62_ok : f62_s t0 t1 S Q → ATriple PR 62 [t0, t1] S Q := fun h => pF (fn := Tryz.f62) (.two (rg 3 0 3) (.two (.two (rg 5 0 0) (.two (.two (rg 6 0 0) (.nil)) (.nil))) (.two (.two (rg 7 0 0) (.two (.two (rg 8 0 0) (.nil)) (.nil))) (.two (.two (rg 7 0 0) (.two (.two (rg 8 0 0) (.nil)) (.nil))) (.two (.two (rg 7 0 0) (.two (.two (rg 8 0 0) (.nil)) (.nil))) (.two (rg 8 0 0) (.nil))))))) h
noncomputable def f60_a1 : Ann := .two (rg 1 0 0) (.two (rg 1 0 0) (.two (.two (rg 1 0 0) (.one (.loop [0, 3, 4]))) (.two (rg 2 0 0) (.nil))))
noncomputable def f60_c1 : Code := (cl (cl (cr (cl (cr (cr (bodyOf Tryz.f60)))))))
noncomputable def f60_a2 : Ann := .two (.two (rg 4 0 0) (.two (.nil) (.nil))) (.two (.one (.two (rg 3 0 0) (.two (.one (.loop [0, 3, 4, 5])) (.two (rg 1 0 0) (.two (rg 6 16 0) (.two (rg 8 64 32) (rg 6 16 0))))))) (rg 3 0 0))
noncomputable def f60_c2 : Code := (cl (cl (cl (cr (cl (cl (cr (cl (cl (cr (cl (cr (cr (bodyOf Tryz.f60))))))))))))))
noncomputable def f60_c3 : Code := (cr (cr (cl (cl (cr (cl (cl (cr (cl (cr (cr (bodyOf Tryz.f60))))))))))))
noncomputable def f60_c4 : Code := (cr (cr (cl (cl (cr (cl (cr (cr (bodyOf Tryz.f60)))))))))
noncomputable def f60_a5 : Ann := (ar (ar f60_a2))
noncomputable def f60_c5 : Code := (cr (cr (cr (bodyOf Tryz.f60))))
def f60_L1 (K : AK) (t0 t3 t4 : AV) (S : Store) : Prop := AI PR none 49 [.code f60_c1, .inLoop f60_c1] K (ofL [(0, t0), (3, t3), (4, t4)]) S
def f60_L2 (K : AK) (t0 t3 t4 t5 : AV) (S : Store) : Prop := AI PR none 49 [.code f60_c2, .inLoop f60_c2] K (ofL [(0, t0), (3, t3), (4, t4), (5, t5)]) S
def f60_l2 (K : AK) (t0 t3 t4 t5 : AV) (S : Store) : Prop := bQ (abi .gtr t5 (iv 0)) fun t16 => gdQ t16 true (some t0) fun t18 => gdQ t16 true (some t4) fun t19 => gdQ t16 true (ixA 8 t18 t19 S) fun t20 => gdQ t16 true (ldv true 8 t20 S) fun t21 => gdQ t16 true (some t3) fun t22 => gdQ t16 true (some t5) fun t23 => gdQ t16 true (abi .sub t23 (iv 1)) fun t24 => gdQ t16 true (ixA 8 t22 t24 S) fun t25 => gdQ t16 true (ldv true 8 t25 S) fun t26 => gdE t16 true (fun K => ATriple PR 62 [t21, t26] S K) S fun t27 S_1 => bQ (apick t16 t27 (bv false)) fun t28 => condW t28 (bQ (abi .sub t5 (iv 1)) fun t30 => f60_L2 K t0 t3 t4 t30 S_1) (K (.exit 2) (ofL [(0, t0), (3, t3), (4, t4), (5, t5)]) S_1)
theorem f60_L2_pt : f60_l2 K t0 t3 t4 t5 S → f60_L2 K t0 t3 t4 t5 S := fun h => pL (.two (.two (.reg [0, 1, 3, 7, 7, 31, 63, 7, 7, 263, 903, 1927, 4095, 8191] (pq 0 12 <| .e 12 [] <| .q 13 false <| .done)) (.two (.nil) (.nil))) (.one (rg 3 0 0))) [0, 3, 4, 5] [0, 3, 4, 5] h
noncomputable def f60_K1 (K : AK) : AK := (AK.block 2 (AK.andThen (fun st S => W PR none 49 f60_c3 ((ar (ar (al (al (ar f60_a2)))))) (AK.block 1 (AK.andThen (fun st S => W PR none 49 f60_c4 f60_a5 (AK.andThen (fun st S => AI PR none 49 [.code f60_c1, .inLoop f60_c1] K (mask [0, 3, 4] st) S) (mskK [3] K)) st S) (AK.andThen (fun st S => AI PR none 49 [.code f60_c1, .inLoop f60_c1] K (mask [0, 3, 4] st) S) (mskK [3] K)))) st S) (AK.block 1 (AK.andThen (fun st S => W PR none 49 f60_c4 f60_a5 (AK.andThen (fun st S => AI PR none 49 [.code f60_c1, .inLoop f60_c1] K (mask [0, 3, 4] st) S) (mskK [3] K)) st S) (AK.andThen (fun st S => AI PR none 49 [.code f60_c1, .inLoop f60_c1] K (mask [0, 3, 4] st) S) (mskK [3] K))))))
def f60_K1_e2 (K : AK) (t0 t3 t4 t5 : AV) (S : Store) : Prop := bQ (sliceV 8 t3 none (some t5) none S) fun t34 => apW (some (112, 8, 80, .slice)) nilS t34 S fun t35 S_1 => bQ (ixA 8 t0 t4 S_1) fun t39 => bQ (ldv true 8 t39 S_1) fun t40 => bQ (frzOf (bslR true 8 112 8 1 1 [(0, t40)])) fun t41 => apW (some (112, 8, 80, .slice)) t35 t41 S_1 fun t42 S_2 => bQ (sliceV 8 t3 (some t5) none none S_2) fun t46 => apW (some (112, 8, 80, .slice)) t42 t46 S_2 fun t47 S_3 => bQ (abi .add t4 (iv 1)) fun t12 => f60_L1 K t0 t47 t12 S_3
theorem f60_K1_e2_pt : f60_K1_e2 K t0 t3 t4 t5 S → f60_K1 K (.exit 2) (ofL [(0, t0), (3, t3), (4, t4), (5, t5)]) S := castP (by kernel_rfl)
def f60_l1 (K : AK) (t0 t3 t4 : AV) (S : Store) : Prop := bQ (aln .slice t0 S) fun t9 => bQ (abi .lss t4 t9) fun t10 => condW t10 (bQ (aln .slice t3 S) fun t14 => f60_L2 (f60_K1 K) t0 t3 t4 t14 S) (K (.exit 0) (ofL [(3, t3)]) S)
theorem f60_L1_pt : f60_l1 K t0 t3 t4 S → f60_L1 K t0 t3 t4 S := fun h => pL f60_a2 [0, 3, 4] [3] h
noncomputable def f60_K2 (Q : QT) : AK := (AK.block 0 (AK.andThen (fun st S => W PR none 49 f60_c5 ((ar (ar (ar f60_a1)))) (retK PR Tryz.f60 (dropQ Q)) st S) (retK PR Tryz.f60 (dropQ Q))))
def f60_K2_e0 (Q : QT) (t3 : AV) (S : Store) : Prop := dropQ Q t3 S
theorem f60_K2_e0_pt : f60_K2_e0 Q t3 S → f60_K2 Q (.exit 0) (ofL [(3, t3)]) S := castP (by kernel_rfl)
def f60_s (t0 : AV) (S : Store) (Q : QT) : Prop := f60_L1 (f60_K2 Q) t0 nilS (iv 0) S
theorem f60_ok : f60_s t0 S Q → ATriple PR 60 [t0] S Q := fun h => pF (fn := Tryz.f60) f60_a1 h
attribute [irreducible] f60_L1 f60_L2 f60_K1 f60_K2
noncomputable def f16_a1 : Ann := .two (rg 1 0 0) (.two (.two (rg 5 0 0) (.two (.two (rg 1 0 0) (.nil)) (.nil))) (.two (.two (rg 1 0 0) (.one (.loop [0, 1, 5]))) (.two (rg 1 0 0) (.nil))))
noncomputable def f16_c1 : Code := (cl (cl (cr (cl (cr (cr (bodyOf Tryz.f16)))))))
noncomputable def f16_c2 : Code := (cr (cr (cr (bodyOf Tryz.f16))))
def f16_L1 (K : AK) (t0 t1 t5 : AV) (S : Store) : Prop := AI PR none 26 [.code f16_c1, .inLoop f16_c1] K (ofL [(0, t0), (1, t1), (5, t5)]) S
def f16_l1 (K : AK) (t0 t1 t5 : AV) (S : Store) : Prop := bQ (aln .slice t0 S) fun t13 => bQ (abi .lss t5 t13) fun t14 => condW t14 (bQ (ixA 8 t0 t5 S) fun t19 => bQ (ldv true 8 t19 S) fun t20 => bQ (ixA 8 t1 t5 S) fun t23 => bQ (ldv true 8 t23 S) fun t24 => bQ (eqQ (eqK PR 112) true .neq t20 t24 S) fun t25 => condW t25 (K .ret (ofL [(4, bv false)]) S) (bQ (abi .add t5 (iv 1)) fun t16 => f16_L1 K t0 t1 t16 S)) (K (.exit 0) (ofL [(4, .poison)]) S)
theorem f16_L1_pt : f16_l1 K t0 t1 t5 S → f16_L1 K t0 t1 t5 S := fun h => pL (.two (.two (rg 4 0 0) (.two (.nil) (.nil))) (.two (.one (.two (.reg [0, 0, 3, 7, 0, 0, 48, 112, 255] (pq 0 9 <| .done)) (.two (.two (rg 1 0 0) (.nil)) (.nil)))) (rg 3 0 0))) [0, 1, 5] [4] h
noncomputable def f16_K1 (Q : QT) : AK := (AK.block 0 (AK.andThen (fun st S => W PR none 26 f16_c2 ((ar (ar (ar f16_a1)))) (retK PR Tryz.f16 (dropQ Q)) st S) (retK PR Tryz.f16 (dropQ Q))))
def f16_K1_e0 (Q : QT) (t4 : AV) (S : Store) : Prop := dropQ Q (bv true) S
theorem f16_K1_e0_pt : f16_K1_e0 Q t4 S → f16_K1 Q (.exit 0) (ofL [(4, t4)]) S := castP (by kernel_rfl)
def f16_K1_ret (Q : QT) (t4 : AV) (S : Store) : Prop := dropQ Q t4 S
theorem f16_K1_ret_pt : f16_K1_ret Q t4 S → f16_K1 Q .ret (ofL [(4, t4)]) S := castP (by kernel_rfl)
def f16_s (t0 t1 : AV) (S : Store) (Q : QT) : Prop := bQ (aln .slice t0 S) fun t7 => bQ (aln .slice t1 S) fun t9 => bQ (abi .neq t7 t9) fun t10 => condW t10 (dropQ Q (bv false) S) (f16_L1 (f16_K1 Q) t0 t1 (iv 0) S)
theorem f16_ok : f16_s t0 t1 S Q → ATriple PR 16 [t0, t1] S Q := fun h => pF (fn := Tryz.f16) f16_a1 h
attribute [irreducible] f16_L1 f16_K1
noncomputable def f12_a1 : Ann := .two (rg 1 0 0) (.two (rg 5 12 0) (.two (rg 1 0 0) (.two (.two (rg 1 0 0) (.one (.loop [5, 6, 7]))) (.two (rg 2 0 0) (.nil)))))
noncomputable def f12_c1 : Code := (cl (cl (cr (cl (cr (cr (cr (bodyOf Tryz.f12))))))))
noncomputable def f12_c2 : Code := (cr (cr (cr (cr (bodyOf Tryz.f12)))))
def f12_L1 (K : AK) (t5 t6 t7 : AV) (S : Store) : Prop := AI PR none 42 [.code f12_c1, .inLoop f12_c1] K (ofL [(5, t5), (6, t6), (7, t7)]) S
def f12_l1 (K : AK) (t5 t6 t7 : AV) (S : Store) : Prop := bQ (aln .slice t5 S) fun t14 => bQ (abi .lss t7 t14) fun t15 => condW t15 (bQ (aln .slice t6 S) fun t19 => bQ (abi .eql t19 (iv 0)) fun t20 => gdQ t20 false (some t6) fun t22 => gdQ t20 false (some t6) fun t23 => gdQ t20 false (aln .slice t23 S) fun t24 => gdQ t20 false (abi .sub t24 (iv 1)) fun t25 => gdQ t20 false (ixA 8 t22 t25 S) fun t26 => gdQ t20 false (ldv true 8 t26 S) fun t27 => gdQ t20 false (some t5) fun t28 => gdQ t20 false (some t7) fun t29 => gdQ t20 false (ixA 8 t28 t29 S) fun t30 => gdQ t20 false (ldv true 8 t30 S) fun t31 => gdE t20 false (fun K => ATriple PR 62 [t27, t31] S K) S fun t32 S_1 => bQ (apick t20 (bv true) t32) fun t33 => condW t33 (bQ (ixA 8 t5 t7 S_1) fun t37 => bQ (ldv true 8 t37 S_1) fun t38 => bQ (frzOf (bslR true 8 112 8 1 1 [(0, t38)])) fun t39 => apW (some (112, 8, 80, .slice)) t6 t39 S_1 fun t40 S_2 => bQ (abi .add t7 (iv 1)) fun t17 => f12_L1 K t5 t40 t17 S_2) (bQ (abi .add t7 (iv 1)) fun t17_1 => f12_L1 K t5 t6 t17_1 S_1)) (K (.exit 0) (ofL [(6, t6)]) S)
theorem f12_L1_pt : f12_l1 K t5 t6 t7 S → f12_L1 K t5 t6 t7 S := fun h => pL (.two (.two (rg 4 0 0) (.two (.nil) (.nil))) (.two (.one (.two (.reg [0, 1, 3, 7, 15, 15, 47, 111, 255, 511, 15, 15, 3087, 7183, 16383, 32767] (pq 0 14 <| .e 14 [] <| .q 15 false <| .done)) (.two (rg 8 64 32) (.nil)))) (rg 3 0 0))) [5, 6, 7] [6] h
noncomputable def f12_K1 (Q : QT) : AK := (AK.block 0 (AK.andThen (fun st S => W PR none 42 f12_c2 ((ar (ar (ar (ar f12_a1))))) (retK PR Tryz.f12 (dropQ Q)) st S) (retK PR Tryz.f12 (dropQ Q))))
def f12_K1_e0 (Q : QT) (t6 : AV) (S : Store) : Prop := dropQ Q t6 S
theorem f12_K1_e0_pt : f12_K1_e0 Q t6 S → f12_K1 Q (.exit 0) (ofL [(6, t6)]) S := castP (by kernel_rfl)
def f12_s (t0 t1 : AV) (S : Store) (Q : QT) : Prop := ATriple PR 61 [t0, t1] S fun t10 S_1 => ATriple PR 60 [t10] S_1 fun t11 S_2 => f12_L1 (f12_K1 Q) t11 nilS (iv 0) S_2
theorem f12_ok : f12_s t0 t1 S Q → ATriple PR 12 [t0, t1] S Q := fun h => pF (fn := Tryz.f12) f12_a1 h
attribute [irreducible] f12_L1 f12_K1
noncomputable def f76_a1 : Ann := .two (rg 1 0 0) (.two (.two (rg 1 0 0) (.one (.loop [0, 3]))) (.two (rg 1 0 0) (.nil)))
noncomputable def f76_c1 : Code := (cl (cl (cr (cl (cr (bodyOf Tryz.f76))))))
noncomputable def f76_c2 : Code := (cr (cr (bodyOf Tryz.f76)))
def f76_L1 (K : AK) (t0 t3 : AV) (S : Store) : Prop := AI PR none 35 [.code f76_c1, .inLoop f76_c1] K (ofL [(0, t0), (3, t3)]) S
def f76_l1 (K : AK) (t0 t3 : AV) (S : Store) : Prop := bQ (aln .slice t0 S) fun t7 => bQ (abi .lss t3 t7) fun t8 => condW t8 (bQ (ixA 8 t0 t3 S) fun t13 => bQ (ldv true 8 t13 S) fun t14 => ATriple PR 174 [t14] S fun t15 S_1 => bQ (aun .not t15) fun t17 => gdQ t17 false (some t3) fun t19 => gdQ t17 false (abi .gtr t19 (iv 0)) fun t20 => gdQ t17 false (some t20) fun t21 => gdQ t21 true (some t0) fun t22 => gdQ t21 true (some t3) fun t23 => gdQ t21 true (abi .sub t23 (iv 1)) fun t24 => gdQ t21 true (ixA 8 t22 t24 S_1) fun t25 => gdQ t21 true (ldv true 8 t25 S_1) fun t26 => gdQ t21 true (some t0) fun t27 => gdQ t21 true (some t3) fun t28 => gdQ t21 true (ixA 8 t27 t28 S_1) fun t29 => gdQ t21 true (ldv true 8 t29 S_1) fun t30 => gdE t21 true (fun K => ATriple PR 62 [t26, t30] S_1 K) S_1 fun t31 S_2 => gdQ t21 true (aun .not t31) fun t32 => gdQ t17 false (apick t21 t32 (bv false)) fun t33 => bQ (apick t17 (bv true) t33) fun t34 => condW t34 (K .ret (ofL [(2, bv false)]) S_2) (bQ (abi .add t3 (iv 1)) fun t10 => f76_L1 K t0 t10 S_2)) (K (.exit 0) (ofL [(2, .poison)]) S)
theorem f76_L1_pt : f76_l1 K t0 t3 S → f76_L1 K t0 t3 S := fun h => pL (.two (.two (rg 4 0 0) (.two (.nil) (.nil))) (.two (.one (.two (rg 6 16 0) (.two (.reg [0, 1, 3, 7, 15, 31, 63, 63, 191, 511, 1023, 63, 63, 6207, 14399, 32767, 65535, 131071, 262143] (pq 0 15 <| .e 15 [] <| pq 16 3 <| .done)) (.two (.two (rg 1 0 0) (.nil)) (.nil))))) (rg 3 0 0))) [0, 3] [2] h
noncomputable def f76_K1 (Q : QT) : AK := (AK.block 0 (AK.andThen (fun st S => W PR none 35 f76_c2 ((ar (ar f76_a1))) (retK PR Tryz.f76 (dropQ Q)) st S) (retK PR Tryz.f76 (dropQ Q))))
def f76_K1_e0 (Q : QT) (t2 : AV) (S : Store) : Prop := dropQ Q (bv true) S
theorem f76_K1_e0_pt : f76_K1_e0 Q t2 S → f76_K1 Q (.exit 0) (ofL [(2, t2)]) S := castP (by kernel_rfl)
def f76_s (t0 : AV) (S : Store) (Q : QT) : Prop := f76_L1 (f76_K1 Q) t0 (iv 0) S
theorem f76_ok : f76_s t0 S Q → ATriple PR 76 [t0] S Q := fun h => pF (fn := Tryz.f76) f76_a1 h
attribute [irreducible] f76_L1 f76_K1
noncomputable def f78_a1 : Ann := .two (rg 2 0 1) (.two (rg 1 0 0) (.two (.two (rg 1 0 0) (.one (.loop [0, 3, 5, 6]))) (.two (rg 2 0 0) (.nil))))
noncomputable def f78_c1 : Code := (cl (cl (cr (cl (cr (cr (bodyOf Tryz.f78)))))))
noncomputable def f78_c2 : Code := (cr (cr (cr (bodyOf Tryz.f78))))
def f78_L1 (K : AK) (t0 t3 t5 t6 : AV) (S : Store) : Prop := AI PR none 35 [.code f78_c1, .inLoop f78_c1] K (ofL [(0, t0), (3, t3), (5, t5), (6, t6)]) S
def f78_l1 (K : AK) (t0 t3 t5 t6 : AV) (S : Store) : Prop := bQ (aln .slice t0 S) fun t9 => bQ (abi .lss t6 t9) fun t10 => condW t10 (bQ (ixA 8 t0 t6 S) fun t15 => bQ (ldv true 8 t15 S) fun t16 => bQ (ldv true 8 t3 S) fun t17 => ATriple PR 62 [t16, t17] S fun t18 S_1 => gdQ t18 false (ldv true 8 t3 S_1) fun t20 => gdQ t18 false (some t0) fun t21 => gdQ t18 false (some t6) fun t22 => gdQ t18 false (ixA 8 t21 t22 S_1) fun t23 => gdQ t18 false (ldv true 8 t23 S_1) fun t24 => gdE t18 false (fun K => ATriple PR 62 [t20, t24] S_1 K) S_1 fun t25 S_2 => bQ (apick t18 (bv true) t25) fun t26 => condW t26 (bQ (ixA 8 t0 t6 S_2) fun t30 => bQ (ldv true 8 t30 S_2) fun t31 => bQ (frzOf (bslR true 8 112 8 1 1 [(0, t31)])) fun t32 => apW (some (112, 8, 80, .slice)) t5 t32 S_2 fun t33 S_3 => bQ (abi .add t6 (iv 1)) fun t12 => f78_L1 K t0 t3 t33 t12 S_3) (bQ (abi .add t6 (iv 1)) fun t12_1 => f78_L1 K t0 t3 t5 t12_1 S_2)) (K (.exit 0) (ofL [(5, t5)]) S)
theorem f78_L1_pt : f78_l1 K t0 t3 t5 t6 S → f78_L1 K t0 t3 t5 t6 S := fun h => pL (.two (.two (rg 4 0 0) (.two (.nil) (.nil))) (.two (.one (.two (.reg [0, 0, 3, 7, 0, 31, 63, 127, 127, 127, 895, 1919, 4095, 8191] (pq 0 5 <| .e 5 [] <| pq 6 6 <| .e 12 [] <| .q 13 false <| .done)) (.two (rg 8 64 32) (.nil)))) (rg 3 0 0))) [0, 3, 5, 6] [5] h
noncomputable def f78_K1 (Q : QT) : AK := (AK.block 0 (AK.andThen (fun st S => W PR none 35 f78_c2 ((ar (ar (ar f78_a1)))) (retK PR Tryz.f78 (dropQ Q)) st S) (retK PR Tryz.f78 (dropQ Q))))
def f78_K1_e0 (Q : QT) (t5 : AV) (S : Store) : Prop := dropQ Q t5 S
theorem f78_K1_e0_pt : f78_K1_e0 Q t5 S → f78_K1 Q (.exit 0) (ofL [(5, t5)]) S := castP (by kernel_rfl)
def f78_s (t0 t1 : AV) (S : Store) (Q : QT) : Prop := bQ (frzOf (boxR true 112 t1)) fun t3 => f78_L1 (f78_K1 Q) t0 t3 nilS (iv 0) S
theorem f78_ok : f78_s t0 t1 S Q → ATriple PR 78 [t0, t1] S Q := fun h => pF (fn := Tryz.f78) f78_a1 h
attribute [irreducible] f78_L1 f78_K1
noncomputable def f18_a1 : Ann := .two (rg 1 0 0) (.two (rg 1 0 0) (.two (.two (rg 1 0 0) (.one (.loop [0, 1, 5, 6]))) (.two (rg 2 0 0) (.nil))))
noncomputable def f18_c1 : Code := (cl (cl (cr (cl (cr (cr (bodyOf Tryz.f18)))))))
noncomputable def f18_c2 : Code := (cr (cr (cr (bodyOf Tryz.f18))))
def f18_L1 (K : AK) (t0 t1 t5 t6 : AV) (S : Store) : Prop := AI PR none 28 [.code f18_c1, .inLoop f18_c1] K (ofL [(0, t0), (1, t1), (5, t5), (6, t6)]) S
def f18_l1 (K : AK) (t0 t1 t5 t6 : AV) (S : Store) : Prop := bQ (aln .slice t0 S) fun t9 => bQ (abi .lss t6 t9) fun t10 => condW t10 (bQ (ixA 8 t0 t6 S) fun t15 => bQ (padd t15 0) fun t16 => bQ (ldv false 1 t16 S) fun t17 => bQ (abi .eql t17 t1) fun t19 => condW t19 (bQ (ixA 8 t0 t6 S) fun t23 => bQ (ldv true 8 t23 S) fun t24 => bQ (frzOf (bslR true 8 112 8 1 1 [(0, t24)])) fun t25 => apW (some (112, 8, 80, .slice)) t5 t25 S fun t26 S_1 => bQ (abi .add t6 (iv 1)) fun t12 => f18_L1 K t0 t1 t26 t12 S_1) (bQ (abi .add t6 (iv 1)) fun t12_1 => f18_L1 K t0 t1 t5 t12_1 S)) (K (.exit 0) (ofL [(5, t5)]) S)
theorem f18_L1_pt : f18_l1 K t0 t1 t5 t6 S → f18_L1 K t0 t1 t5 t6 S := fun h => pL (.two (.two (rg 4 0 0) (.two (.nil) (.nil))) (.two (.one (.two (rg 7 0 0) (.two (rg 8 64 32) (.nil)))) (rg 3 0 0))) [0, 1, 5, 6] [5] h
noncomputable def f18_K1 (Q : QT) : AK := (AK.block 0 (AK.andThen (fun st S => W PR none 28 f18_c2 ((ar (ar (ar f18_a1)))) (retK PR Tryz.f18 (dropQ Q)) st S) (retK PR Tryz.f18 (dropQ Q))))
def f18_K1_e0 (Q : QT) (t5 : AV) (S : Store) : Prop := dropQ Q t5 S
theorem f18_K1_e0_pt : f18_K1_e0 Q t5 S → f18_K1 Q (.exit 0) (ofL [(5, t5)]) S := castP (by kernel_rfl)
def f18_s (t0 t1 : AV) (S : Store) (Q : QT) : Prop := f18_L1 (f18_K1 Q) t0 t1 nilS (iv 0) S
theorem f18_ok : f18_s t0 t1 S Q → ATriple PR 18 [t0, t1] S Q := fun h => pF (fn := Tryz.f18) f18_a1 h
attribute [irreducible] f18_L1 f18_K1
noncomputable def f20_a1 : Ann := .two (rg 1 0 0) (.two (rg 1 0 0) (.two (.two (rg 1 0 0) (.one (.loop [0, 1, 2, 7, 8]))) (.two (rg 2 0 0) (.nil))))
noncomputable def f20_c1 : Code := (cl (cl (cr (cl (cr (cr (bodyOf Tryz.f20)))))))
noncomputable def f20_c2 : Code := (cr (cr (cr (bodyOf Tryz.f20))))
def f20_L1 (K : AK) (t0 t1 t2 t7 t8 : AV) (S : Store) : Prop := AI PR none 39 [.code f20_c1, .inLoop f20_c1] K (ofL [(0, t0), (1, t1), (2, t2), (7, t7), (8, t8)]) S
def f20_l1 (K : AK) (t0 t1 t2 t7 t8 : AV) (S : Store) : Prop := bQ (aln .slice t0 S) fun t11 => bQ (abi .lss t8 t11) fun t12 => condW t12 (bQ (ixA 8 t0 t8 S) fun t17 => bQ (padd t17 0) fun t18 => bQ (ldv false 1 t18 S) fun t19 => bQ (abi .geq t19 t1) fun t21 => gdQ t21 true (some t0) fun t23 => gdQ t21 true (some t8) fun t24 => gdQ t21 true (ixA 8 t23 t24 S) fun t25 => gdQ t21 true (padd t25 0) fun t26 => gdQ t21 true (ldv false 1 t26 S) fun t27 => gdQ t21 true (some t2) fun t28 => gdQ t21 true (abi .lss t27 t28) fun t29 => bQ (apick t21 t29 (bv false)) fun t30 => condW t30 (bQ (ixA 8 t0 t8 S) fun t34 => bQ (ldv true 8 t34 S) fun t35 => bQ (frzOf (bslR true 8 112 8 1 1 [(0, t35)])) fun t36 => apW (some (112, 8, 80, .slice)) t7 t36 S fun t37 S_1 => bQ (abi .add t8 (iv 1)) fun t14 => f20_L1 K t0 t1 t2 t37 t14 S_1) (bQ (abi .add t8 (iv 1)) fun t14_1 => f20_L1 K t0 t1 t2 t7 t14_1 S)) (K (.exit 0) (ofL [(7, t7)]) S)
theorem f20_L1_pt : f20_l1 K t0 t1 t2 t7 t8 S → f20_L1 K t0 t1 t2 t7 t8 S := fun h => pL (.two (.two (rg 4 0 0) (.two (.nil) (.nil))) (.two (.one (.two (rg 16 0 0) (.two (rg 8 64 32) (.nil)))) (rg 3 0 0))) [0, 1, 2, 7, 8] [7] h
noncomputable def f20_K1 (Q : QT) : AK := (AK.block 0 (AK.andThen (fun st S => W PR none 39 f20_c2 ((ar (ar (ar f20_a1)))) (retK PR Tryz.f20 (dropQ Q)) st S) (retK PR Tryz.f20 (dropQ Q))))
def f20_K1_e0 (Q : QT) (t7 : AV) (S : Store) : Prop := dropQ Q t7 S
theorem f20_K1_e0_pt : f20_K1_e0 Q t7 S → f20_K1 Q (.exit 0) (ofL [(7, t7)]) S := castP (by kernel_rfl)
def f20_s (t0 t1 t2 : AV) (S : Store) (Q : QT) : Prop := f20_L1 (f20_K1 Q) t0 t1 t2 nilS (iv 0) S
theorem f20_ok : f20_s t0 t1 t2 S Q → ATriple PR 20 [t0, t1, t2] S Q := fun h => pF (fn := Tryz.f20) f20_a1 h
attribute [irreducible] f20_L1 f20_K1
end
end Go.Du
namespace Go.Du
open Go
attribute [local irreducible] ATriple W evP AI
structure Ver where
  key : Bs
  br : Int
  ep : Int
  sq : Int
  fr : Int
  to : Int
  val : Bs
  gone : Bool
  deriving DecidableEq
def Ver.cs (v : Ver) : List AV := [sv v.key, iv v.br, iv v.ep, iv v.sq, iv v.fr, iv v.to, sv v.val, bv v.gone]
abbrev Ver.av (v : Ver) : AV := .agg v.cs
abbrev vers (l : List Ver) : AV := .svals (l.map Ver.cs)
@[simp] theorem Ver.cs_length (v : Ver) : v.cs.length = 8 := rfl
@[simp] theorem Ver.cs_take (v : Ver) : v.cs.take 8 = v.cs := rfl
theorem ldv_ver (v : Ver) (S : Store) : ldv true 8 (.fptr v.cs 0) S = some v.av := ldv_all S rfl
theorem ixA_ver (l : List Ver) (i : Nat) (S : Store) (h : i < l.length) : ixA 8 (vers l) (iv i) S = some (.fptr l[i].cs 0) := ixA_map Ver.cs l i 8 S h Ver.cs_length
def Ver.less (a b : Ver) : Bool :=
  if a.key != b.key then Op.bytesLess a.key b.key
  else if a.br != b.br then decide (a.br < b.br)
  else if a.ep != b.ep then decide (a.ep < b.ep)
  else if a.sq != b.sq then decide (a.sq < b.sq)
  else decide (a.fr < b.fr)
theorem f62_c (a b : Ver) (S : Store) {Q : AV → Store → Prop} (h : Q (bv (a.less b)) S) : ATriple PR 62 [a.av, b.av] S Q := by
  refine f62_ok ?_
  simp [f62_s, Ver.cs]
  unfold Ver.less at h
  split <;> (try split) <;> (try split) <;> (try split) <;> exact dropQ_self (by simp_all)
theorem eqK112 : eqK PR 112 = some (.struct [.s, .i, .i, .i, .i, .i, .s, .b]) := by kernel_rfl
@[simp] theorem Ver.neq (a b : Ver) (S : Store) : eqQ (eqK PR 112) true .neq a.av b.av S = some (bv (decide (a ≠ b))) := by
  rw [eqK112]
  have : (a = b) ↔ (a.key = b.key ∧ a.br = b.br ∧ a.ep = b.ep ∧ a.sq = b.sq ∧ a.fr = b.fr ∧ a.to = b.to ∧ a.val = b.val ∧ a.gone = b.gone) := by cases a; cases b; simp
  simp only [eqQ, aeqv, aeq, Ver.cs, lits, ckOf, sEq, litEq, Option.map_some, List.map_cons, List.map_nil, and_self, if_true, sb_toList, Bool.and_true, this, ne_eq, decide_not, Bool.decide_and]
  simp [beqD]
theorem f16_loop (a b : List Ver) (hl : a.length = b.length) (hB : a.length ≤ 1099511627776) (K : AK) (S : Store) (h0 : a = b → K (.exit 0) (ofL [(4, .poison)]) S) (h1 : a ≠ b → K .ret (ofL [(4, bv false)]) S) :
    ∀ (n i : Nat), n + i = a.length → a.take i = b.take i → f16_L1 K (vers a) (vers b) (iv i) S := by
  intro n
  induction n with
  | zero =>
    intro i hi he
    refine f16_L1_pt ?_
    have : ¬ (i : Int) < a.length := by omega
    simp [f16_l1, this]
    refine h0 ?_
    rw [List.take_of_length_le (by omega), List.take_of_length_le (by omega)] at he
    exact he
  | succ n ih =>
    intro i hi he
    refine f16_L1_pt ?_
    have : (i : Int) < a.length := by omega
    simp (disch := omega) [f16_l1, this, ixA_ver, wrap_id]
    split
    · rename_i heq
      refine ih (i + 1) (by omega) ?_
      rw [List.take_add_one, List.take_add_one, he]
      simp [List.getElem?_eq_getElem (show i < a.length by omega), List.getElem?_eq_getElem (show i < b.length by omega), heq]
    · rename_i hne
      exact h1 (fun e => hne (by subst e; rfl))
theorem f16_c (a b : List Ver) (hB : a.length ≤ 1099511627776) (S : Store) {Q : AV → Store → Prop} (h : Q (bv (decide (a = b))) S) : ATriple PR 16 [vers a, vers b] S Q := by
  refine f16_ok ?_
  simp [f16_s]
  split
  · rename_i hl
    refine f16_loop a b (by omega) hB _ S (fun e => f16_K1_e0_pt ?_) (fun e => f16_K1_ret_pt ?_) a.length 0 rfl rfl
    · exact dropQ_self (by simpa [e] using h)
    · exact dropQ_self (by simpa [e] using h)
  · rename_i hl
    exact dropQ_self (by have : a ≠ b := fun e => hl (by rw [e]); simpa [this] using h)
theorem f161_c (fr to : Int) (S : Store) {Q : AV → Store → Prop} (h : Q (bv (decide (0 ≤ fr ∧ fr < to ∧ to ≤ 1099511627776))) S) : ATriple PR 161 [.agg [iv fr, iv to]] S Q := by
  refine f161_ok ?_
  by_cases h1 : 0 ≤ fr <;> by_cases h2 : fr < to <;> by_cases h3 : to ≤ 1099511627776 <;> simp [f161_s, h1, h2, h3] <;> exact dropQ_self (by simpa [h1, h2, h3] using h)
def Ver.cut (v : Ver) : Ver := { v with key := v.key.take 110, val := v.val.take 210 }
theorem sliceS_hi (l : Bs) (n : Int) (h0 : 0 ≤ n) (h : n ≤ l.length) : sliceS (sv l) none (some (iv n)) = some (sv (l.take n.toNat)) := by
  obtain ⟨k, rfl⟩ := Int.eq_ofNat_of_zero_le h0
  simp [sliceS, asStr, bnds, bnd, show k ≤ l.length by omega]
  apply ByteArray.ext
  simp [ByteArray.data_extract, sb]
theorem f173_c (v : Ver) (S : Store) {Q : AV → Store → Prop} (h : Q v.cut.av S) : ATriple PR 173 [v.av] S Q := by
  refine f173_ok ?_
  simp only [f173_s, boxR_agg, mkNew_false, newW_own]
  intro t ht t2 ht2
  have hne : t ≠ t2 := fun e => by subst e; simp at ht2
  have ht2' : S t2 = none := by rwa [Store.set_ne _ _ _ hne.symm] at ht2
  have half : ∀ (v' : Ver) S1, Sub S S1 → v'.key = v.key.take 110 → { v' with key := v.key } = v → (∃ r, S1 t2 = some (.row 112 8 [r]) ∧ r.length = 8) → S1 t = some (.row 112 8 [v'.cs]) → f173_J1 Q (.ptr t 0 0) (.ptr t2 0 0) S1 := by
    intro v' S1 hs hk hv ⟨r, hr, hrl⟩ hS
    refine f173_J1_pt ?_
    have fin : ∀ v2 : Ver, ∀ S', Sub S S' → v2 = v.cut → dropQ Q (.agg v2.cs) S' := fun v2 S' hs e => ⟨_, S, .drop hs, by rw [e]; exact h⟩
    have hval : v'.val = v.val := by rw [← hv]
    by_cases h1 : (210 : Int) < v.val.length
    · have e1 : sliceS (sv v.val) none (some (iv 210)) = some (sv (v.val.take 210)) := sliceS_hi _ _ (by omega) (by omega)
      simp [f173_j1, ldv, stv, hS, hr, hne, hne.symm, Store.set_ne, splice, Ver.cs, e1, hval, h1, hrl]
      refine fin { v' with val := v.val.take 210 } _ ((hs.set ht).set ht2') ?_
      rw [← hv]; simp [Ver.cut, hk]
    · simp [f173_j1, ldv, stv, hS, hr, hne, hne.symm, Store.set_ne, splice, Ver.cs, hval, h1, hrl]
      rw [← hval]
      refine fin v' _ (hs.set ht2') ?_
      have : v.val.take 210 = v.val := List.take_of_length_le (by omega)
      rw [← hv]; simp [Ver.cut, hk]
      rw [hval, this, ← hk, ← hval]
  by_cases h1 : (110 : Int) < v.key.length
  · have e1 : sliceS (sv v.key) none (some (iv 110)) = some (sv (v.key.take 110)) := sliceS_hi _ _ (by omega) (by omega)
    simp [ldv, stv, hne, hne.symm, Store.set_ne, splice, Ver.cs, e1, h1]
    refine half { v with key := v.key.take 110 } _ ((((Sub.refl S).set ht).set ht2').set ht) rfl rfl ⟨_, by rw [Store.set_ne _ _ _ hne.symm, Store.set_same], rfl⟩ (by simp [Ver.cs])
  · simp [ldv, stv, hne, hne.symm, Store.set_ne, splice, Ver.cs, h1]
    refine half v _ (((Sub.refl S).set ht).set ht2') (List.take_of_length_le (by omega)).symm rfl ⟨_, Store.set_same _ _ _, rfl⟩ (by simp [Store.set_ne, hne, Ver.cs])
end Go.Du
namespace Go.Du
open Go
attribute [local irreducible] ATriple W evP AI
def be0 (n : Nat) (l : Bs) : Nat := l.foldl (fun n b => 256 * n + b.toNat) n
def num8 (l : Bs) : Int := (be0 0 l : Int) - 9223372036854775808
theorem be0_add (l : Bs) : ∀ a c, be0 (a + c) l = be0 a l + c * 256 ^ l.length := by
  induction l with
  | nil => intro a c; simp [be0]
  | cons b l ih =>
    intro a c
    simp only [be0, List.foldl_cons, List.length_cons] at ih ⊢
    rw [show 256 * (a + c) + b.toNat = (256 * a + b.toNat) + 256 * c by omega, ih, Nat.pow_succ]
    congr 1
    rw [Nat.mul_comm 256 c, Nat.mul_assoc, Nat.mul_comm 256]
theorem be0_lt (l : Bs) : ∀ a m, a < m → be0 a l < m * 256 ^ l.length := by
  induction l with
  | nil => intro a m h; simpa [be0] using h
  | cons b l ih =>
    intro a m h
    simp only [be0, List.foldl_cons, List.length_cons] at ih ⊢
    have := ih (256 * a + b.toNat) (256 * m) (by have := b.toNat_lt; omega)
    rw [Nat.pow_succ, Nat.mul_comm (256 ^ _) 256, ← Nat.mul_assoc, Nat.mul_comm m 256]
    exact this
@[simp] theorem acvI_uv (n : Int) (S : Store) : acv (.int .i64) (uv n) S = some (iv (IntKind.i64.wrap n)) := rfl
@[simp] theorem abi_rem (a b : Int) : abi .rem (iv a) (iv b) = if b = 0 then none else some (iv (a.tmod b)) := by
  simp only [abi, biv, isShift, biInt, if_true, Bool.false_eq_true, if_false]
  split <;> rfl
theorem Q_iv {Q : AV → Store → Prop} {S : Store} {x y : Int} (e : x = y) (h : Q (iv y) S) : Q (iv x) S := e ▸ h
theorem f477_loop (l : Bs) (hl : l.length = 8) (S : Store) (K : AK) : ∀ (k i n : Nat), k + i = 8 → 1 ≤ i → n < 128 * 256 ^ (i - 1) → K (.exit 0) (ofL [(0, bytes l), (3, iv (be0 n (l.drop i)))]) S → f477_L1 K (bytes l) (iv n) (iv i) S := by
  intro k
  induction k with
  | zero =>
    intro i n hi h1 hn hK
    refine f477_L1_pt ?_
    have e : ¬ (i : Int) < 8 := by omega
    rw [List.drop_of_length_le (by omega)] at hK
    simp [f477_l1, e]
    exact hK
  | succ k ih =>
    intro i n hi h1 hn hK
    refine f477_L1_pt ?_
    have e : (i : Int) < 8 := by omega
    have hil : i < l.length := by omega
    have hb := l[i].toNat_lt
    have hp : 128 * 256 ^ (i - 1) ≤ 128 * 256 ^ 6 := Nat.mul_le_mul_left _ (Nat.pow_le_pow_right (by decide) (by omega))
    have hn' : n < 36028797018963968 := by omega
    rw [List.drop_eq_getElem_cons hil] at hK
    simp [f477_l1, e, ixA_bytes l i S hil]
    rw [wrap_id (n := (l[i].toNat : Int)) (by omega) (by omega), wrap_id (n := 256 * (n : Int)) (by omega) (by omega), wrap_id (n := 256 * (n : Int) + l[i].toNat) (by omega) (by omega), wrap_id (n := (i : Int) + 1) (by omega) (by omega)]
    have := ih (i + 1) (256 * n + l[i].toNat) (by omega) (by omega) (by
      rw [show i + 1 - 1 = (i - 1) + 1 by omega, Nat.pow_succ]
      omega) hK
    simpa using this
set_option maxRecDepth 100000 in
theorem f477_c (l : Bs) (hl : l.length = 8) (S : Store) {Q : AV → Store → Prop} (h : Q (iv (num8 l)) S) : ATriple PR 477 [bytes l] S Q := by
  refine f477_ok ?_
  obtain ⟨b, r, rfl⟩ : ∃ b r, l = b :: r := by cases l with | nil => cases hl | cons b r => exact ⟨b, r, rfl⟩
  have hr : r.length = 7 := by simpa using hl
  have hb := b.toNat_lt
  have e0 : ixA 1 (bytes (b :: r)) (iv 0) S = some (.fptr [uv b.toNat] 0) := ixA_bytesI (b :: r) 0 S (by omega) (by simp)
  simp only [f477_s, e0, bQ_some]
  simp
  rw [wrap_id (n := (b.toNat : Int)) (by omega) (by omega)]
  have e1 : (b.toNat : Int).tmod 128 = ((b.toNat % 128 : Nat) : Int) := rfl
  rw [e1]
  have hloop := f477_loop (b :: r) hl S (f477_K1 Q) 7 1 (b.toNat % 128) rfl (by omega) (by simp; omega)
  simp only [Int.natCast_emod, Int.cast_ofNat_Int, Int.natCast_one] at hloop ⊢
  refine hloop ?_
  apply f477_K1_e0_pt
  simp only [f477_K1_e0, e0, bQ_some]
  simp
  have h1 := be0_add r (b.toNat % 128) (128 * (b.toNat / 128))
  rw [Nat.mod_add_div, hr] at h1
  have h2 : be0 0 (b :: r) = be0 b.toNat r := by simp [be0]
  have h3 := be0_lt r (b.toNat % 128) 128 (by omega)
  rw [hr] at h3
  have p7 : (256 : Nat) ^ 7 = 72057594037927936 := by decide
  rw [p7] at h1 h3
  unfold num8 at h
  rw [h2, h1] at h
  clear h1 h2 hloop
  generalize be0 (b.toNat % 128) r = N at *
  split
  · rename_i hlt
    have : b.toNat / 128 = 0 := by omega
    rw [this] at h
    rw [wrap_id (n := (N : Int) - 9223372036854775807) (by omega) (by omega), wrap_id (by omega) (by omega)]
    exact dropQ_self (Q_iv (by omega) h)
  · rename_i hlt
    have : b.toNat / 128 = 1 := by omega
    rw [this] at h
    exact dropQ_self (Q_iv (by omega) h)
inductive Prt where
  | num (n : Int)
  | txt (s : Bs)
def Prt.cs : Prt → List AV
  | .num n => [bv false, iv n, sv []]
  | .txt s => [bv true, iv 0, sv s]
def rdT (acc : Bs) : Bs → Except Int (Bs × Bs)
  | [] => .error 3
  | [_] => .error 3
  | b :: c :: r => if b = 0 then (if c = 255 then rdT (acc ++ [0]) r else if c = 1 then .ok (acc, r) else .error 2) else rdT (acc ++ [b]) (c :: r)
theorem rdT_len : ∀ (n : Nat) (l acc s r : Bs), l.length ≤ n → rdT acc l = .ok (s, r) → r.length < l.length
  | _, [], _, _, _, _, h => by simp [rdT] at h
  | _, [_], _, _, _, _, h => by simp [rdT] at h
  | 0, _ :: _ :: _, _, _, _, hn, _ => by simp at hn
  | n + 1, b :: c :: l, acc, s, r, hn, h => by
    simp only [List.length_cons] at hn
    simp only [rdT] at h
    split at h
    · split at h
      · have := rdT_len n l _ s r (by omega) h
        simp only [List.length_cons]; omega
      · split at h
        · simp only [Except.ok.injEq, Prod.mk.injEq] at h
          simp only [List.length_cons, ← h.2]; omega
        · cases h
    · have := rdT_len n (c :: l) _ s r (by simp; omega) h
      simp only [List.length_cons] at this ⊢; omega
end Go.Du
namespace Go.Du
open Go
attribute [local irreducible] ATriple W evP AI
theorem u8_zero (b : UInt8) : ((b.toNat : Int) = 0) ↔ b = 0 := by
  constructor
  · intro h; have : b.toNat = 0 := by omega
    exact UInt8.toNat_inj.1 this
  · rintro rfl; rfl
theorem u8_eq (b : UInt8) (n : Nat) (hn : n < 256) : ((b.toNat : Int) = (n : Int)) ↔ b = UInt8.ofNat n := by
  constructor
  · intro h; have : b.toNat = n := by omega
    rw [← this]; simp
  · rintro rfl; simp; omega
theorem bsl_byte (b : Int) (S : Store) : frzOf (bslR true 1 5 1 1 1 [(0, uv b)]) = some (.svals [[uv b]]) := bsl_one 5 1 (uv b) 1 ⟨rfl, by decide, by decide, rfl, rfl⟩
theorem Grow.byte {Sa S : Store} {acc : Bs} {v : AV} {K : AV → Store → Prop} (h : Grow 5 1 Sa (byt acc) v S) (b : UInt8) (hb : acc.length ≤ 1099511627776) (hk : ∀ v' S', Grow 5 1 Sa (byt (acc ++ [b])) v' S' → K v' S') : apW (some (5, 1, 1, .slice)) v (.svals [[uv b.toNat]]) S K := by
  refine h.app (l := [[uv b.toNat]]) rfl (by simp) (by simp; omega) (by simp; omega) fun v' S' hg => hk v' S' ?_
  simpa [byt] using hg
theorem rdT_ne (acc l : Bs) {b : UInt8} (h : b ≠ 0) : rdT acc (b :: l) = rdT (acc ++ [b]) l := by
  cases l with
  | nil => simp [rdT]
  | cons c r => simp [rdT, h]
set_option maxRecDepth 100000 in
theorem f417_loop2 (key : Bs) (hB : key.length ≤ 1099511627776) (Sa : Store) (t4 : AV) (K : AK) : ∀ (n i : Nat) (acc : Bs) (t7 : AV) (S : Store), key.length - i ≤ n → i ≤ key.length → acc.length ≤ i → Grow 5 1 Sa (byt acc) t7 S →
    (∀ e, rdT acc (key.drop i) = .error e → ∀ i' t7' S', Sub Sa S' → K .ret (ofL [(0, bytes key), (2, .lit (.slice none 0 0)), (3, iv e), (4, t4), (5, i'), (7, t7')]) S') →
    (∀ s r, rdT acc (key.drop i) = .ok (s, r) → ∀ (i' : Nat) t7' S', i' ≤ key.length → s.length ≤ i' → key.drop i' = r → Grow 5 1 Sa (byt s) t7' S' → K (.exit 2) (ofL [(0, bytes key), (2, .poison), (3, .poison), (4, t4), (5, iv i'), (7, t7')]) S') →
    f417_L2 K (bytes key) t4 (iv i) t7 (bv false) S := by
  intro n
  induction n with
  | zero =>
    intro i acc t7 S hn hi ha hg he ho
    refine f417_L2_pt ?_
    have h1 : (key.length : Int) ≤ i := by omega
    rw [List.drop_of_length_le (by omega)] at he
    simp [f417_l2, h1]
    exact he 3 (by simp [rdT]) _ _ _ hg.sub
  | succ n ih =>
    intro i acc t7 S hn hi ha hg he ho
    refine f417_L2_pt ?_
    by_cases hlt : i < key.length
    · have hB1 : ¬ (key.length : Int) ≤ i := by omega
      have hd : key.drop i = key[i] :: key.drop (i + 1) := List.drop_eq_getElem_cons hlt
      have w1 : IntKind.i64.wrap ((i : Int) + 1) = i + 1 := wrap_id (by omega) (by omega)
      have w2 : IntKind.i64.wrap ((i : Int) + 2) = i + 2 := wrap_id (by omega) (by omega)
      have x1 := ixA_bytes key i
      by_cases hz : key[i] = 0
      · have hz' : (key[i].toNat : Int) = 0 := (u8_zero _).2 hz
        by_cases h2 : i + 1 < key.length
        · have h2' : ¬ (key.length : Int) ≤ (i : Int) + 1 := by omega
          have hd2 : key.drop (i + 1) = key[i + 1] :: key.drop (i + 2) := List.drop_eq_getElem_cons h2
          rw [hd, hd2, hz] at he ho
          simp only [rdT, if_true] at he ho
          have x2 : ∀ S, ixA 1 (bytes key) (iv ((i : Int) + 1)) S = some (.fptr [uv key[i + 1].toNat] 0) := fun S => by have := ixA_bytes key (i + 1) S h2; simpa using this
          by_cases c1 : key[i + 1] = 255
          · have c1' : (key[i + 1].toNat : Int) = 255 := by rw [c1]; rfl
            simp only [c1, if_true] at he ho
            simp [f417_l2, hB1, h2', x1 S hlt, hz', w1, x2, c1', bsl_byte]
            refine Grow.byte hg 0 (by omega) fun v' S' hg' => ?_
            rw [w2]
            have := ih (i + 2) (acc ++ [0]) v' S' (by omega) (by omega) (by simp; omega) hg' he ho
            simpa using this
          · have c1' : ¬ (key[i + 1].toNat : Int) = 255 := fun h => c1 ((u8_eq _ 255 (by decide)).1 h)
            by_cases c2 : key[i + 1] = 1
            · have c2' : (key[i + 1].toNat : Int) = 1 := by rw [c2]; rfl
              simp only [c2] at he ho
              simp [f417_l2, hB1, h2', x1 S hlt, hz', w1, x2, c2']
              rw [w2]
              refine f417_L2_pt ?_
              simp [f417_l2]
              have := ho acc (key.drop (i + 2)) (by simp) (i + 2) t7 S (by omega) (by omega) rfl hg
              simpa using this
            · have c2' : ¬ (key[i + 1].toNat : Int) = 1 := fun h => c2 ((u8_eq _ 1 (by decide)).1 h)
              simp only [c1, c2, if_false] at he
              simp [f417_l2, hB1, h2', x1 S hlt, hz', w1, x2, c1', c2']
              exact he 2 rfl _ _ _ hg.sub
        · have h2' : (key.length : Int) ≤ (i : Int) + 1 := by omega
          have hd2 : key.drop (i + 1) = [] := List.drop_of_length_le (by omega)
          rw [hd, hd2] at he
          simp [f417_l2, hB1, h2', x1 S hlt, hz', w1]
          exact he 3 (by simp [rdT]) _ _ _ hg.sub
      · have hz' : ¬ (key[i].toNat : Int) = 0 := fun h => hz ((u8_zero _).1 h)
        have hz2 : ¬ key[i].toNat = 0 := fun h => hz' (by omega)
        rw [hd, rdT_ne _ _ hz] at he ho
        simp [f417_l2, hB1, x1 S hlt, hz', hz2, bsl_byte]
        refine Grow.byte hg key[i] (by omega) fun v' S' hg' => ?_
        rw [w1]
        have := ih (i + 1) (acc ++ [key[i]]) v' S' (by omega) (by omega) (by simp; omega) hg' he ho
        simpa using this
    · have h1 : (key.length : Int) ≤ i := by omega
      rw [List.drop_of_length_le (by omega)] at he
      simp [f417_l2, h1]
      exact he 3 (by simp [rdT]) _ _ _ hg.sub
end Go.Du
namespace Go.Du
open Go
attribute [local irreducible] ATriple W evP AI
def rdP : Nat → List Prt → Bs → Except Int (List Prt)
  | _, acc, [] => .ok acc
  | 0, _, _ :: _ => .error 2
  | n + 1, acc, k :: r =>
    if k = 1 then (if r.length < 8 then .error 3 else rdP n (acc ++ [.num (num8 (r.take 8))]) (r.drop 8))
    else if k = 2 then (match rdT [] r with
      | .error e => .error e
      | .ok (s, r') => rdP n (acc ++ [.txt s]) r')
    else .error 2
abbrev prts (l : List Prt) : List (List AV) := l.map Prt.cs
@[simp] theorem Prt.cs_length (p : Prt) : p.cs.length = 3 := by cases p <;> rfl
theorem Grow.prt {Sa S : Store} {acc : List Prt} {v : AV} {K : AV → Store → Prop} (h : Grow 296 3 Sa (prts acc) v S) (p : Prt) (hb : acc.length ≤ 1099511627776) (hk : ∀ v' S', Grow 296 3 Sa (prts (acc ++ [p])) v' S' → K v' S') : apW (some (296, 3, 32, .slice)) v (.svals [p.cs]) S K := by
  refine h.app (l := [p.cs]) rfl (by simp) (by simp; omega) (by simp; omega) fun v' S' hg => hk v' S' ?_
  simpa [prts] using hg
set_option maxRecDepth 100000 in
theorem f417_loop1 (key : Bs) (hB : key.length ≤ 1099511627776) (S0 : Store) (K : AK) : ∀ (n i : Nat) (acc : List Prt) (t4 : AV) (S S0' : Store), key.length - i ≤ n → i ≤ key.length → acc.length ≤ i → Sub S0 S0' → Grow 296 3 S0' (prts acc) t4 S →
    (∀ e, rdP n acc (key.drop i) = .error e → ∀ t4' S', Sub S0 S' → K .ret (ofL [(2, .lit (.slice none 0 0)), (3, iv e), (4, t4')]) S') →
    (∀ ps, rdP n acc (key.drop i) = .ok ps → ∀ t4' S' S1, Sub S0 S1 → Grow 296 3 S1 (prts ps) t4' S' → K (.exit 0) (ofL [(2, .poison), (3, .poison), (4, t4')]) S') →
    f417_L1 K (bytes key) t4 (iv i) S := by
  intro n
  induction n with
  | zero =>
    intro i acc t4 S S0' hn hi ha hs hg he ho
    refine f417_L1_pt ?_
    have h1 : ¬ (i : Int) < key.length := by omega
    rw [List.drop_of_length_le (by omega)] at ho
    simp [f417_l1, h1]
    exact ho acc rfl _ _ _ hs hg
  | succ n ih =>
    intro i acc t4 S S0' hn hi ha hs hg he ho
    refine f417_L1_pt ?_
    by_cases hlt : i < key.length
    · have h1 : (i : Int) < key.length := by omega
      have hd : key.drop i = key[i] :: key.drop (i + 1) := List.drop_eq_getElem_cons hlt
      have w1 : IntKind.i64.wrap ((i : Int) + 1) = i + 1 := wrap_id (by omega) (by omega)
      have w9 : IntKind.i64.wrap ((i : Int) + 1 + 8) = i + 9 := by rw [wrap_id (by omega) (by omega)]; omega
      have x1 := ixA_bytes key i
      rw [hd] at he ho
      simp only [rdP] at he ho
      by_cases k1 : key[i] = 1
      · have k1' : (key[i].toNat : Int) = 1 := by rw [k1]; rfl
        simp only [k1, if_true] at he ho
        by_cases hsh : key.length < i + 9
        · have hsh' : (key.length : Int) < (i : Int) + 9 := by omega
          rw [if_pos (by simp; omega)] at he
          simp [f417_l1, h1, x1 S hlt, k1', w1, w9, hsh']
          exact he 3 rfl _ _ (hs.trans hg.sub)
        · have hsh' : ¬ (key.length : Int) < (i : Int) + 9 := by omega
          rw [if_neg (by simp; omega)] at he ho
          have sl := sliceV_map (fun b : UInt8 => [uv b.toNat]) key (i + 1) (i + 9) 1 S (by omega) (by omega) (fun _ => rfl)
          have sl' : sliceV 1 (bytes key) (some (iv ((i : Int) + 1))) (some (iv ((i : Int) + 9))) none S = some (bytes ((key.drop (i + 1)).take 8)) := by
            have e : i + 9 - (i + 1) = 8 := by omega
            rw [e] at sl; push_cast at sl; exact sl
          simp [f417_l1, h1, x1 S hlt, k1', w1, w9, hsh', sl']
          refine f477_c _ (by simp; omega) S ?_
          have hdd : (key.drop (i + 1)).drop 8 = key.drop (i + 9) := by rw [List.drop_drop]
          rw [hdd] at he ho
          have hbd : ∀ x, abld [.lit (.bool false), .lit (.int .i64 0), .lit (.string ⟨#[]⟩)] [(1, 1, iv x)] = some (.agg (Prt.num x).cs) := fun x => by simp [abld, afill, splice, Prt.cs]
          have hbs : ∀ p : Prt, frzOf (bslR true 3 296 3 1 1 [(0, .agg p.cs)]) = some (.svals [p.cs]) := fun p => bsl_one 296 3 _ 3 ⟨rfl, by decide, by decide, rfl, p.cs_length⟩
          rw [hbd, bQ_some, hbs, bQ_some]
          refine Grow.prt hg _ (by omega) fun v' S' hg' => ?_
          have := ih (i + 9) _ v' S' S0' (by omega) (by omega) (by simp; omega) hs hg' he ho
          simpa using this
      · have k1' : ¬ (key[i].toNat : Int) = 1 := fun h => k1 ((u8_eq _ 1 (by decide)).1 h)
        have k1n : ¬ key[i].toNat = 1 := fun h => k1' (by omega)
        simp only [k1, if_false] at he ho
        by_cases k2 : key[i] = 2
        · have k2' : (key[i].toNat : Int) = 2 := by rw [k2]; rfl
          simp only [k2, if_true] at he ho
          simp [f417_l1, h1, x1 S hlt, k2', w1]
          have hl2 := f417_loop2 key hB S t4 (f417_K1 K) (key.length - (i + 1)) (i + 1) [] (.lit (.slice none 0 0)) S (Nat.le_refl _) (by omega) (by simp) .nil ?_ ?_
          · simpa using hl2
          · intro e hre i' t7' S' hsub
            rw [hre] at he
            apply f417_K1_ret_pt
            exact he e rfl _ _ ((hs.trans hg.sub).trans hsub)
          · intro s r hr i' t7' S' hi' hsl hdr hg7
            rw [hr] at he ho
            apply f417_K1_e2_pt
            simp only [f417_K1_e2, acv_byt hg7.rd, bQ_some]
            obtain ⟨S1, hs1, hg1⟩ := hg.swap hg7
            have hbd : abld [.lit (.bool false), .lit (.int .i64 0), .lit (.string ⟨#[]⟩)] [(0, 1, .lit (.bool true)), (2, 1, sv s)] = some (.agg (Prt.txt s).cs) := by simp [abld, afill, splice, Prt.cs]
            have hbs : ∀ p : Prt, frzOf (bslR true 3 296 3 1 1 [(0, .agg p.cs)]) = some (.svals [p.cs]) := fun p => bsl_one 296 3 _ 3 ⟨rfl, by decide, by decide, rfl, p.cs_length⟩
            rw [hbd, bQ_some, hbs, bQ_some]
            refine Grow.prt hg1 _ (by omega) fun v' S2 hg' => ?_
            have hlen := rdT_len _ _ _ _ _ (Nat.le_refl _) hr
            have hil : i + 1 < i' := by
              rw [← hdr] at hlen
              simp at hlen; omega
            subst hdr
            exact ih i' _ v' S2 S1 (by omega) hi' (by simp; omega) (hs.trans hs1) hg' he ho
        · have k2' : ¬ (key[i].toNat : Int) = 2 := fun h => k2 ((u8_eq _ 2 (by decide)).1 h)
          have k2n : ¬ key[i].toNat = 2 := fun h => k2' (by omega)
          simp only [k2, if_false] at he
          simp [f417_l1, h1, x1 S hlt, k1n, k2n, k1', k2', w1]
          exact he 2 rfl _ _ (hs.trans hg.sub)
    · have h1 : ¬ (i : Int) < key.length := by omega
      rw [List.drop_of_length_le (by omega)] at ho
      simp [f417_l1, h1]
      exact ho acc rfl _ _ _ hs hg
def resP (r : Except Int (List Prt)) : AV :=
  match r with
  | .ok ps => .tuple [.svals (prts ps), iv 0]
  | .error e => .tuple [.svals [], iv e]
theorem f417_c (key : Bs) (hB : key.length ≤ 1099511627776) (S : Store) {Q : AV → Store → Prop} (h : Q (resP (rdP key.length [] key)) S) : ATriple PR 417 [bytes key] S Q := by
  refine f417_ok ?_
  simp only [f417_s]
  have := f417_loop1 key hB S (f417_K2 Q) key.length 0 [] (.lit (.slice none 0 0)) S S (by omega) (by omega) (by simp) (.refl _) .nil ?_ ?_
  · exact this
  · intro e he t4 S' hs
    apply f417_K2_ret_pt
    simp only [List.drop_zero] at he
    rw [he] at h
    exact ⟨_, _, (Ent.drop hs).trans (Ent.val (fun t el => (FrzL.cons .nil (.cons (.refl _) .nil)).tuple) 0), h⟩
  · intro ps hp t4 S' S1 hs hg
    apply f417_K2_e0_pt
    simp only [List.drop_zero] at hp
    rw [hp] at h
    exact ⟨_, _, (hg.entC (fun a => .tuple [a, iv 0]) fun t el a b hab => (FrzL.cons hab (.cons (.refl _) .nil)).tuple).trans (Ent.drop hs), h⟩
end Go.Du
namespace Go.Du
open Go
attribute [local irreducible] ATriple W evP AI
def splitR (r : Except Int (List Prt)) : Int × Bs × Int :=
  match r with
  | .error e => (0, [], e)
  | .ok [.num n, .txt s] => if 0 ≤ n ∧ n ≤ 3 ∧ s.length ≤ 40 then (n, s, 0) else (0, [], 2)
  | .ok _ => (0, [], 2)
theorem rdP_err : ∀ (n : Nat) (acc : List Prt) (l : Bs) (e : Int), rdP n acc l = .error e → e ≠ 0 := by
  have ht : ∀ (l acc : Bs) (e : Int), rdT acc l = .error e → e ≠ 0 := by
    intro l
    induction h : l.length using Nat.strongRecOn generalizing l with
    | ind k ih =>
      intro acc e he
      match l, h with
      | [], _ => simp [rdT] at he; omega
      | [_], _ => simp [rdT] at he; omega
      | b :: c :: r, hk =>
        simp only [rdT] at he
        simp only [List.length_cons] at hk
        split at he
        · split at he
          · exact ih r.length (by omega) r rfl _ _ he
          · split at he
            · cases he
            · simp only [Except.error.injEq] at he; omega
        · exact ih (c :: r).length (by simp; omega) (c :: r) rfl _ _ he
  intro n
  induction n with
  | zero => intro acc l e h; cases l <;> simp [rdP] at h; omega
  | succ n ih =>
    intro acc l e h
    cases l with
    | nil => simp [rdP] at h
    | cons k r =>
      simp only [rdP] at h
      split at h
      · split at h
        · simp only [Except.error.injEq] at h; omega
        · exact ih _ _ _ h
      · split at h
        · split at h
          · rename_i e' he'
            simp only [Except.error.injEq] at h; subst h
            exact ht _ _ _ he'
          · exact ih _ _ _ h
        · simp only [Except.error.injEq] at h; omega
theorem splitR_two (x y : Prt) : splitR (.ok [x, y]) = match x, y with | .num n, .txt s => (if 0 ≤ n ∧ n ≤ 3 ∧ s.length ≤ 40 then (n, s, 0) else (0, [], 2)) | _, _ => (0, [], 2) := by
  cases x <;> cases y <;> rfl
theorem splitR_nil : splitR (.ok []) = (0, [], 2) := rfl
theorem splitR_one (x : Prt) : splitR (.ok [x]) = (0, [], 2) := by cases x <;> rfl
theorem splitR_more (x y z : Prt) (l : List Prt) : splitR (.ok (x :: y :: z :: l)) = (0, [], 2) := by cases x <;> cases y <;> rfl
set_option maxRecDepth 100000 in
theorem f309_c (key : Bs) (hB : key.length ≤ 1099511627776) (S : Store) {Q : AV → Store → Prop} (h : Q (.tuple [iv (splitR (rdP key.length [] key)).1, sv (splitR (rdP key.length [] key)).2.1, iv (splitR (rdP key.length [] key)).2.2]) S) : ATriple PR 309 [sv key] S Q := by
  refine f309_ok ?_
  simp only [f309_s, strR_sv, frzOf_frz, bQ_some]
  refine f417_c key hB S ?_
  generalize hr : rdP key.length [] key = r at h
  cases r with
  | error e =>
    have := rdP_err _ _ _ _ hr
    simp only [splitR] at h
    simp -implicitDefEqProofs [resP, this]
    exact dropQ_self h
  | ok ps =>
    clear hr
    rcases ps with _ | ⟨x, _ | ⟨y, _ | ⟨z, l⟩⟩⟩
    · rw [splitR_nil] at h; simp -implicitDefEqProofs [resP]; exact dropQ_self h
    · rw [splitR_one] at h; simp -implicitDefEqProofs [resP]; exact dropQ_self h
    · rw [splitR_two] at h
      have x0 := ixA_map Prt.cs [x, y] 0 3 S (by simp) Prt.cs_length
      have x1 := ixA_map Prt.cs [x, y] 1 3 S (by simp) Prt.cs_length
      simp only [Int.natCast_zero, Int.cast_ofNat_Int, Int.natCast_one, List.getElem_cons_zero, List.getElem_cons_succ, List.map_cons, List.map_nil] at x0 x1
      cases x with
      | txt a => dsimp only at h; simp -implicitDefEqProofs [resP, x0, Prt.cs]; exact dropQ_self h
      | num n =>
        cases y with
        | num m => dsimp only at h; simp -implicitDefEqProofs [resP, x0, x1, Prt.cs]; exact dropQ_self h
        | txt s =>
          simp only [Prt.cs] at x0 x1
          dsimp only at h
          by_cases h1 : n < 0
          · rw [if_neg (by omega)] at h
            simp -implicitDefEqProofs [resP, x0, x1, Prt.cs, h1]; exact dropQ_self h
          · by_cases h2 : 3 < n
            · rw [if_neg (by omega)] at h
              simp -implicitDefEqProofs [resP, x0, x1, Prt.cs, h1, h2]; exact dropQ_self h
            · by_cases h3 : 40 < s.length
              · have h3' : (40 : Int) < s.length := by omega
                rw [if_neg (by omega)] at h
                simp -implicitDefEqProofs [resP, x0, x1, Prt.cs, h1, h2, h3']; exact dropQ_self h
              · have h3' : ¬ (40 : Int) < s.length := by omega
                rw [if_pos (by omega)] at h
                simp -implicitDefEqProofs [resP, x0, x1, Prt.cs, h1, h2, h3']; exact dropQ_self h
    · rw [splitR_more] at h
      have : ¬ ((l.length : Int) + 1 + 1 + 1 = 2) := by omega
      simp -implicitDefEqProofs [resP, this]
      exact dropQ_self h
theorem chain {a b : Prop} [Decidable a] (hb : b) : ¬ a ∨ (a ∧ b) := by
  by_cases h : a
  · exact .inr ⟨h, hb⟩
  · exact .inl h
def keyE (k : Bs) : Int := (splitR (rdP k.length [] k)).2.2
def Ver.may (v : Ver) : Bool :=
  decide (keyE v.key = 0) && decide (0 ≤ v.fr ∧ v.fr < v.to ∧ v.to ≤ 1099511627776) && decide (v.val.length ≤ 200) && (!v.gone || decide (v.val = [])) &&
    decide (0 ≤ v.br) && decide (v.br ≤ 15) && decide (1 ≤ v.ep) && decide (v.ep ≤ 10000) && decide (1 ≤ v.sq) && decide (v.sq ≤ 100000)
set_option maxRecDepth 100000 in
theorem f174_c (v : Ver) (hB : v.key.length ≤ 1099511627776) (S : Store) {Q : AV → Store → Prop} (h : Q (bv v.may) S) : ATriple PR 174 [v.av] S Q := by
  refine f174_ok ?_
  have e0 : ldv true 2 (.fptr v.cs 4) S = some (.agg [iv v.fr, iv v.to]) := rfl
  have hk : (splitR (rdP v.key.length [] v.key)).2.2 = keyE v.key := rfl
  have fin : ∀ b, b = v.may → dropQ Q (bv b) S := fun b e => dropQ_self (by rw [e]; exact h)
  unfold Ver.may at fin
  clear h
  simp -implicitDefEqProofs only [f174_s, Ver.cs, boxR_agg, frzOf_frz, bQ_some]
  simp only [Ver.cs] at e0
  obtain ⟨key, br, ep, sq, fr, to, val, gone⟩ := v
  dsimp only at hB e0 hk fin ⊢
  have hc := chain (a := keyE key = 0) (chain (a := 0 ≤ fr ∧ fr < to ∧ to ≤ 1099511627776) (chain (a := val.length ≤ 200) (chain (a := 0 ≤ br) (chain (a := br ≤ 15) (chain (a := 1 ≤ ep) (chain (a := ep ≤ 10000) (chain (a := 1 ≤ sq) (chain (a := sq ≤ 100000) trivial))))))))
  have hl : 200 < val.length ↔ ¬ val.length ≤ 200 := by omega
  have hl2 : (200 : Int) < val.length ↔ ¬ val.length ≤ 200 := by omega
  have hl3 : (val.length : Int) ≤ 200 ↔ val.length ≤ 200 := by omega
  have hg : gone = false ∨ gone = true ∧ ¬ val = [] ∨ gone = true ∧ val = [] := by
    cases gone
    · exact .inl rfl
    · by_cases hv : val = []
      · exact .inr (.inr ⟨rfl, hv⟩)
      · exact .inr (.inl ⟨rfl, hv⟩)
  rcases hg with hg | ⟨hg, hv⟩ | ⟨hg, hv⟩ <;> (rcases hc with h1 | ⟨h1, h2 | ⟨h2, h3 | ⟨h3, h5 | ⟨h5, h6 | ⟨h6, h7 | ⟨h7, h8 | ⟨h8, h9 | ⟨h9, h10 | ⟨h10, _⟩⟩⟩⟩⟩⟩⟩⟩⟩) <;>
  first | (exfalso; subst hv; simp at h3; done) |
  ( subst hg
    simp -implicitDefEqProofs
    refine f309_c key hB S ?_
    rw [hk]
    simp -implicitDefEqProofs [e0, *]
    refine f161_c fr to S ?_
    simp -implicitDefEqProofs [*]
    first | exact fin _ (by simp [*]) | skip)
end Go.Du
namespace Go.Du
open Go
attribute [local irreducible] ATriple W evP AI
theorem Grow.under {e sz : Nat} {S0 S : Store} {es : List (List AV)} {v : AV} (h : Grow e sz S0 es v S) {t : Nat} (ht : S t = none) (o : AObj) : ∃ S0', Sub S0 S0' ∧ Grow e sz S0' es v (S.set t o) := by
  cases h with
  | nil => exact ⟨_, (Sub.refl _).set ht, .nil⟩
  | own hu =>
    rename_i u
    have hne : t ≠ u := fun e => by subst e; simp at ht
    have ht' : S0 t = none := by rwa [Store.set_ne _ _ _ hne] at ht
    refine ⟨S0.set t o, (Sub.refl _).set ht', ?_⟩
    rw [Store.set_comm _ hne.symm]
    exact .own (by rw [Store.set_ne _ _ _ hne.symm]; exact hu)
theorem stv_box {S : Store} {t ty z sz : Nat} {cs : List AV} {x : AV} (hl : cs.length = sz) (hx : okC x = true) (hc : (cellsOf x).length = sz) : stv sz (.ptr t 0 0) x (S.set t (.row ty z [cs])) = some (S.set t (.row ty z [cellsOf x])) := by
  have : splice cs 0 (cellsOf x) = cellsOf x := by simp [splice]; omega
  rw [stv_ptr1 sz t 0 0 x _ (Store.set_same _ _ _) rfl hx hc (by omega), Store.set_set, this]; rfl
theorem ldv_box {S : Store} {t ty z sz : Nat} {cs : List AV} (hl : cs.length = sz) : ldv true sz (.ptr t 0 0) (S.set t (.row ty z [cs])) = some (.agg cs) := by
  rw [ldv_ptr1 true sz t 0 0 _ (Store.set_same _ _ _) rfl]; subst hl; simp
theorem ldv_cell {S : Store} {t ty z o : Nat} {cs : List AV} : ldv false 1 (.ptr t 0 o) (S.set t (.row ty z [cs])) = cs[o]? := by
  rw [ldv_ptr1 false 1 t 0 o _ (Store.set_same _ _ _) rfl]; rfl
theorem Grow.ver {Sa S : Store} {acc : List Ver} {v : AV} {K : AV → Store → Prop} (h : Grow 112 8 Sa (acc.map Ver.cs) v S) (p : Ver) (hb : acc.length ≤ 1099511627) (hk : ∀ v' S', Grow 112 8 Sa ((acc ++ [p]).map Ver.cs) v' S' → K v' S') : apW (some (112, 8, 80, .slice)) v (.svals [p.cs]) S K := by
  refine h.app (l := [p.cs]) rfl (by simp) (by simp; omega) (by simp; omega) fun v' S' hg => hk v' S' ?_
  simpa using hg
theorem bsl_ver (p : Ver) : frzOf (bslR true 8 112 8 1 1 [(0, p.av)]) = some (.svals [p.cs]) := bsl_one 112 8 _ 8 ⟨rfl, by decide, by decide, rfl, p.cs_length⟩
def goodF (most : Nat) : List Ver → List Ver → List Ver
  | acc, [] => acc
  | acc, v :: r => if acc.length < most then (if v.cut.may then goodF most (acc ++ [v.cut]) r else goodF most acc r) else acc
set_option maxRecDepth 100000 in
theorem f61_loop (l : List Ver) (hB : l.length ≤ 1048576) (most : Nat) (hm : most ≤ 1048576) (K : AK) (S0 : Store) (r : List Ver) (h0 : ∀ v S S1, Sub S0 S1 → Grow 112 8 S1 (r.map Ver.cs) v S → K (.exit 0) (ofL [(5, v)]) S) :
    ∀ (n i : Nat) (acc : List Ver) (v : AV) (S S1 : Store), n + i = l.length → acc.length ≤ i → Sub S0 S1 → Grow 112 8 S1 (acc.map Ver.cs) v S → r = goodF most acc (l.drop i) → f61_L1 K (vers l) (iv most) v (iv i) S := by
  intro n
  induction n with
  | zero =>
    intro i acc v S S1 hi ha hs hg hr
    refine f61_L1_pt ?_
    have : ¬ (i : Int) < l.length := by omega
    rw [List.drop_of_length_le (by omega)] at hr
    simp -implicitDefEqProofs [f61_l1, this]
    subst hr
    exact h0 _ _ _ hs hg
  | succ n ih =>
    intro i acc v S S1 hi ha hs hg hr
    refine f61_L1_pt ?_
    have h1 : (i : Int) < l.length := by omega
    have h2 : i < l.length := by omega
    have w1 : IntKind.i64.wrap ((i : Int) + 1) = i + 1 := wrap_id (by omega) (by omega)
    rw [List.drop_eq_getElem_cons h2] at hr
    unfold goodF at hr
    have hl := hg.len
    by_cases hlt : acc.length < most
    · have hlt' : (acc.length : Int) < most := by omega
      rw [if_pos hlt] at hr
      simp -implicitDefEqProofs [f61_l1, h1, h2, hl, hlt, ixA_ver]
      refine f173_c _ S ?_
      intro t ht
      have e1 := fun S : Store => stv_box (S := S) (t := t) (ty := 112) (z := 8) (cs := [.lit (.string ⟨#[]⟩), .lit (.int .i64 0), .lit (.int .i64 0), .lit (.int .i64 0), .lit (.int .i64 0), .lit (.int .i64 0), .lit (.string ⟨#[]⟩), .lit (.bool false)]) (x := l[i].cut.av) (sz := 8) rfl rfl rfl
      have e2 := fun S : Store => ldv_box (S := S) (t := t) (ty := 112) (z := 8) (cs := l[i].cut.cs) (sz := 8) rfl
      rw [e1 S, thenS_some]
      simp only [cellsOf_agg]
      rw [e2, bQ_some]
      refine f174_c l[i].cut (by simp [Ver.cut]; omega) _ ?_
      rw [e2, bQ_some, bsl_ver, bQ_some]
      obtain ⟨S2, hs2, hg2⟩ := hg.under ht (.row 112 8 [l[i].cut.cs])
      split at hr
      · rename_i hmay
        simp -implicitDefEqProofs only [condW_bv, hmay, if_true]
        refine hg2.ver _ (by omega) fun v' S' hg' => ?_
        rw [w1]
        exact ih (i + 1) _ _ _ _ (by omega) (by simp; omega) (hs.trans hs2) hg' hr
      · rename_i hmay
        simp -implicitDefEqProofs only [condW_bv, hmay, if_false]
        rw [if_neg (by decide), w1]
        exact ih (i + 1) _ _ _ _ (by omega) (by omega) (hs.trans hs2) hg2 hr
    · have hlt' : ¬ (acc.length : Int) < most := by omega
      rw [if_neg hlt] at hr
      simp -implicitDefEqProofs [f61_l1, h1, h2, hl, hlt]
      subst hr
      exact h0 _ _ _ hs hg
theorem f61_c (l : List Ver) (hB : l.length ≤ 1048576) (most : Nat) (hm : most ≤ 1048576) (S : Store) {Q : AV → Store → Prop} (h : Q (vers (goodF most [] l)) S) : ATriple PR 61 [vers l, iv most] S Q := by
  refine f61_ok ?_
  refine f61_loop l hB most hm _ S (goodF most [] l) ?_ l.length 0 [] _ S S rfl (by simp) (.refl _) .nil rfl
  intro v S' S1 hs hg
  apply f61_K1_e0_pt
  exact ⟨_, _, hg.ent.trans (Ent.drop hs), h⟩
section
variable {e sz : Nat} {S0 S : Store} {es : List (List AV)} {v : AV}
theorem Grow.ix (h : Grow e sz S0 es v S) {k : Nat} (hk : k < es.length) : ∃ t, ixA sz v (iv k) S = some (.ptr t k 0) ∧ ∀ ag n o, ldv ag n (.ptr t k o) S = ldc ag n es[k] o := by
  cases h with
  | nil => simp at hk
  | own ht =>
    rename_i t
    refine ⟨t, ?_, fun ag n o => ldv_ptr1 ag n t k o _ (Store.set_same _ _ _) (by simp [hk])⟩
    simp [ixA, litInt, aix, hk]
theorem Grow.slice (h : Grow e sz S0 es v S) {lo hi : Option AV} {a b : Nat} (hb : bnds es.length lo hi none = some (a, b)) (hab : a ≤ b) (hbl : b ≤ es.length) : ∃ x, sliceV sz v lo hi none S = some x ∧ rdS x S = some ((es.drop a).take (b - a)) := by
  cases h with
  | nil => exact ⟨.lit (.slice none 0 0), by simp only [List.length_nil] at hb; simp [sliceV, asl, hb], by simp [rdS]⟩
  | own ht =>
    rename_i t
    by_cases h0 : a = 0
    · subst h0
      exact ⟨.sref t 0 b, by simp [sliceV, asl, hb], by simp [rdS, hbl]⟩
    · by_cases h1 : a = b
      · subst h1
        exact ⟨.svals [], by simp [sliceV, asl, hb, h0], by simp [rdS]⟩
      · refine ⟨.sref t (0 + a) (b - a), by simp [sliceV, asl, hb, h0, h1], ?_⟩
        simp only [rdS, Store.set_same]
        rw [if_pos (by omega)]; simp
theorem bnds_hi {n b : Nat} (h : b ≤ n) : bnds n none (some (iv b)) none = some (0, b) := by
  simp [bnds, bnd]; omega
theorem bnds_lo {n a : Nat} (h : a ≤ n) : bnds n (some (iv a)) none none = some (a, n) := by
  simp [bnds, bnd]; omega
end
def insAt (out : List Ver) (x : Ver) : Nat → Nat
  | 0 => 0
  | n + 1 => match out[n]? with
    | some y => if x.less y then insAt out x n else n + 1
    | none => n + 1
theorem insAt_le (out : List Ver) (x : Ver) : ∀ n, insAt out x n ≤ n
  | 0 => Nat.le_refl _
  | n + 1 => by
    unfold insAt
    split
    · split
      · exact Nat.le_succ_of_le (insAt_le out x n)
      · exact Nat.le_refl _
    · exact Nat.le_refl _
def insS (out : List Ver) (x : Ver) : List Ver := out.take (insAt out x out.length) ++ [x] ++ out.drop (insAt out x out.length)
theorem insS_length (out : List Ver) (x : Ver) : (insS out x).length = out.length + 1 := by
  have := insAt_le out x out.length
  simp [insS]; omega
theorem f60_loop2 (l : List Ver) (out : List Ver) (hB : out.length ≤ 1048576) (i : Nat) (hi : i < l.length) (S0 S : Store) (v : AV) (hg : Grow 112 8 S0 (out.map Ver.cs) v S) (K : AK)
    (h0 : K (.exit 2) (ofL [(0, vers l), (3, v), (4, iv i), (5, iv (insAt out l[i] out.length))]) S) :
    ∀ n, n ≤ out.length → insAt out l[i] n = insAt out l[i] out.length → f60_L2 K (vers l) v (iv i) (iv n) S := by
  intro n
  induction n with
  | zero =>
    intro _ he
    refine f60_L2_pt ?_
    simp -implicitDefEqProofs [f60_l2]
    rw [← he] at h0
    simpa [insAt] using h0
  | succ n ih =>
    intro hn he
    refine f60_L2_pt ?_
    have h1 : (0 : Int) < (n : Int) + 1 := by omega
    have w1 : IntKind.i64.wrap ((n : Int) + 1 - 1) = n := by rw [wrap_id (by omega) (by omega)]; omega
    obtain ⟨t, hx, hr⟩ := hg.ix (k := n) (by simp; omega)
    have w2 : IntKind.i64.wrap (n : Int) = n := wrap_id (by omega) (by omega)
    have e1 : ldv true 8 (.ptr t n 0) S = some out[n].av := by rw [hr]; simp [Ver.cs]
    have x0 := ixA_ver l i S hi
    simp -implicitDefEqProofs [f60_l2, h1, w1, w2, hx, e1, x0]
    refine f62_c _ _ S ?_
    have hget : out[n]? = some out[n] := by simp [show n < out.length by omega]
    simp only [insAt, hget] at he
    cases hc : l[i].less out[n] with
    | true =>
      rw [hc] at he
      simp -implicitDefEqProofs
      exact ih (by omega) (by simpa using he)
    | false =>
      rw [hc] at he
      simp -implicitDefEqProofs
      rw [← he] at h0
      simpa using h0
def sortF (acc : List Ver) : List Ver → List Ver
  | [] => acc
  | x :: r => sortF (insS acc x) r
theorem sortF_length (acc l : List Ver) : (sortF acc l).length = acc.length + l.length := by
  induction l generalizing acc with
  | nil => rfl
  | cons x r ih => simp only [sortF, ih, insS_length, List.length_cons]; omega
theorem f60_loop1 (l : List Ver) (hB : l.length ≤ 524288) (S0 : Store) (K : AK) (r : List Ver) (h0 : ∀ v S S1, Sub S0 S1 → Grow 112 8 S1 (r.map Ver.cs) v S → K (.exit 0) (ofL [(3, v)]) S) :
    ∀ (n i : Nat) (out : List Ver) (v : AV) (S S1 : Store), n + i = l.length → out.length ≤ i → Sub S0 S1 → Grow 112 8 S1 (out.map Ver.cs) v S → r = sortF out (l.drop i) → f60_L1 K (vers l) v (iv i) S := by
  intro n
  induction n with
  | zero =>
    intro i out v S S1 hi ha hs hg hr
    refine f60_L1_pt ?_
    have : ¬ (i : Int) < l.length := by omega
    rw [List.drop_of_length_le (by omega)] at hr
    simp -implicitDefEqProofs [f60_l1, this]
    subst hr
    exact h0 _ _ _ hs hg
  | succ n ih =>
    intro i out v S S1 hi ha hs hg hr
    refine f60_L1_pt ?_
    have h2 : i < l.length := by omega
    have h1 : (i : Int) < l.length := by omega
    have w1 : IntKind.i64.wrap ((i : Int) + 1) = i + 1 := wrap_id (by omega) (by omega)
    rw [List.drop_eq_getElem_cons h2] at hr
    simp only [sortF] at hr
    have hl := hg.len
    simp -implicitDefEqProofs [f60_l1, h1, h2, hl]
    refine f60_loop2 l out (by omega) i h2 S1 S v hg _ ?_ out.length (Nat.le_refl _) rfl
    apply f60_K1_e2_pt
    have hat := insAt_le out l[i] out.length
    have hins : insS out l[i] = out.take (insAt out l[i] out.length) ++ [l[i]] ++ out.drop (insAt out l[i] out.length) := rfl
    generalize insAt out l[i] out.length = k at hat hins ⊢
    obtain ⟨x1, hx1, hr1⟩ := hg.slice (bnds_hi (b := k) (by simpa using hat)) (by omega) (by simpa using hat)
    simp -implicitDefEqProofs only [f60_K1_e2, hx1, bQ_some]
    refine (Grow.nil (S0 := S)).app hr1 ?_ (by simp; omega) (by simp; omega) fun v1 S2 hn1 => ?_
    · intro c hc
      have := List.mem_of_mem_drop (List.mem_of_mem_take hc)
      simp at this; obtain ⟨a, _, rfl⟩ := this; rfl
    rw [ixA_ver l i S2 h2]
    simp -implicitDefEqProofs only [bQ_some, ldv_ver, bsl_ver]
    have hn1' : Grow 112 8 S ((out.take k).map Ver.cs) v1 S2 := by simpa [List.map_take] using hn1
    refine hn1'.ver l[i] (by simp; omega) fun v2 S3 hn2 => ?_
    obtain ⟨S4, hs4, hg4⟩ := hg.swap hn2
    obtain ⟨x2, hx2, hr2⟩ := hg4.slice (bnds_lo (a := k) (by simpa using hat)) (by simpa using hat) (Nat.le_refl _)
    rw [hx2, bQ_some]
    refine hn2.app hr2 ?_ (by simp; omega) (by simp; omega) fun v3 S5 hn3 => ?_
    · intro c hc
      have := List.mem_of_mem_drop (List.mem_of_mem_take hc)
      simp at this; obtain ⟨a, _, rfl⟩ := this; rfl
    rw [abi_add, bQ_some, w1]
    refine ih (i + 1) (insS out l[i]) v3 S5 S (by omega) (by rw [insS_length]; omega) (hs.trans hg.sub) ?_ hr
    have e : List.map Ver.cs (insS out l[i]) = List.map Ver.cs (List.take k out ++ [l[i]]) ++ List.take ((out.map Ver.cs).length - k) (List.drop k (List.map Ver.cs out)) := by
      have e2 : List.take ((out.map Ver.cs).length - k) (List.drop k (List.map Ver.cs out)) = (out.drop k).map Ver.cs := by rw [List.take_of_length_le (by simp), List.map_drop]
      rw [hins, e2, ← List.map_append]
    rw [e]; exact hn3
theorem f60_c (l : List Ver) (hB : l.length ≤ 524288) (S : Store) {Q : AV → Store → Prop} (h : Q (vers (sortF [] l)) S) : ATriple PR 60 [vers l] S Q := by
  refine f60_ok ?_
  refine f60_loop1 l hB S _ (sortF [] l) ?_ l.length 0 [] _ S S rfl (by simp) (.refl _) .nil rfl
  intro v S' S1 hs hg
  apply f60_K2_e0_pt
  exact ⟨_, _, hg.ent.trans (Ent.drop hs), h⟩
def blockF (acc : List Ver) : List Ver → List Ver
  | [] => acc
  | x :: r => match acc.getLast? with
    | none => blockF (acc ++ [x]) r
    | some y => if y.less x then blockF (acc ++ [x]) r else blockF acc r
theorem f12_loop (l : List Ver) (hB : l.length ≤ 1048576) (S0 : Store) (K : AK) (r : List Ver) (h0 : ∀ v S S1, Sub S0 S1 → Grow 112 8 S1 (r.map Ver.cs) v S → K (.exit 0) (ofL [(6, v)]) S) :
    ∀ (n i : Nat) (out : List Ver) (v : AV) (S S1 : Store), n + i = l.length → out.length ≤ i → Sub S0 S1 → Grow 112 8 S1 (out.map Ver.cs) v S → r = blockF out (l.drop i) → f12_L1 K (vers l) v (iv i) S := by
  intro n
  induction n with
  | zero =>
    intro i out v S S1 hi ha hs hg hr
    refine f12_L1_pt ?_
    have : ¬ (i : Int) < l.length := by omega
    rw [List.drop_of_length_le (by omega)] at hr
    simp -implicitDefEqProofs [f12_l1, this]
    subst hr
    exact h0 _ _ _ hs hg
  | succ n ih =>
    intro i out v S S1 hi ha hs hg hr
    refine f12_L1_pt ?_
    have h2 : i < l.length := by omega
    have h1 : (i : Int) < l.length := by omega
    have w1 : IntKind.i64.wrap ((i : Int) + 1) = i + 1 := wrap_id (by omega) (by omega)
    have x0 := ixA_ver l i
    rw [List.drop_eq_getElem_cons h2] at hr
    simp only [blockF] at hr
    have hl := hg.len
    have add : r = blockF (out ++ [l[i]]) (l.drop (i + 1)) → bQ (ixA 8 (vers l) (iv i) S) (fun t37 => bQ (ldv true 8 t37 S) fun t38 => bQ (frzOf (bslR true 8 112 8 1 1 [(0, t38)])) fun t39 => apW (some (112, 8, 80, .slice)) v t39 S fun t40 S_2 => f12_L1 K (vers l) t40 (iv ((i : Int) + 1)) S_2) := by
      intro hr
      rw [x0 S h2]
      simp -implicitDefEqProofs only [bQ_some, ldv_ver, bsl_ver]
      refine hg.ver _ (by omega) fun v' S' hg' => ?_
      exact ih (i + 1) _ v' S' S1 (by omega) (by simp; omega) hs hg' hr
    by_cases hn : out = []
    · subst hn
      simp -implicitDefEqProofs [f12_l1, h1, h2, hl, w1]
      exact add hr
    · have hlen : 0 < out.length := List.length_pos_iff.2 hn
      have hlen0 : ¬ (out.length : Int) = 0 := by omega
      have w2 : IntKind.i64.wrap ((out.length : Int) - 1) = ((out.length - 1 : Nat) : Int) := by rw [wrap_id (by omega) (by omega)]; omega
      obtain ⟨t, hx, hrd⟩ := hg.ix (k := out.length - 1) (by simp; omega)
      have e1 : ldv true 8 (.ptr t (out.length - 1) 0) S = some (out[out.length - 1]'(by omega)).av := by rw [hrd]; simp [Ver.cs]
      have hlast : out.getLast? = some (out[out.length - 1]'(by omega)) := by rw [List.getLast?_eq_getElem?]; simp [show out.length - 1 < out.length by omega]
      rw [hlast] at hr
      simp only at hr
      simp -implicitDefEqProofs [f12_l1, h1, h2, hl, hlen0, hn, w2, hx, e1, x0 S h2]
      refine f62_c _ _ S ?_
      cases hc : (out[out.length - 1]'(by omega)).less l[i] with
      | true =>
        rw [hc] at hr
        simp -implicitDefEqProofs only [bQ_some, condW_bv, w1, if_true]
        exact add hr
      | false =>
        rw [hc] at hr
        simp -implicitDefEqProofs only [bQ_some, condW_bv, w1]
        exact ih (i + 1) _ _ _ _ (by omega) (by omega) hs hg (by simpa using hr)
def Block (l : List Ver) (most : Nat) : List Ver := blockF [] (sortF [] (goodF most [] l))
theorem goodF_length (most : Nat) : ∀ (l acc : List Ver), acc.length ≤ most → (goodF most acc l).length ≤ most := by
  intro l
  induction l with
  | nil => intro acc h; exact h
  | cons x r ih =>
    intro acc h
    simp only [goodF]
    split
    · split
      · exact ih _ (by simp; omega)
      · exact ih _ h
    · exact h
theorem f12_c (l : List Ver) (hB : l.length ≤ 1048576) (most : Nat) (hm : most ≤ 524288) (S : Store) {Q : AV → Store → Prop} (h : Q (vers (Block l most)) S) : ATriple PR 12 [vers l, iv most] S Q := by
  refine f12_ok ?_
  simp -implicitDefEqProofs only [f12_s]
  refine f61_c l hB most (by omega) S ?_
  have hl := goodF_length most l [] (by simp)
  refine f60_c _ (by omega) S ?_
  have hl2 := sortF_length [] (goodF most [] l)
  refine f12_loop (sortF [] (goodF most [] l)) (by simp at hl2; omega) S _ (Block l most) ?_ _ 0 [] _ S S rfl (by simp) (.refl _) .nil rfl
  intro v S' S1 hs hg
  apply f12_K1_e0_pt
  exact ⟨_, _, hg.ent.trans (Ent.drop hs), h⟩
end Go.Du
namespace Go.Du
open Go
attribute [local irreducible] ATriple W evP AI
def chainOk (l : List Ver) : Prop := ∀ i (h : i < l.length), (l[i]).may = true ∧ (l[i]).key.length ≤ 110 ∧ ∀ h0 : 0 < i, (l[i - 1]).less l[i] = true
theorem f76_loop (l : List Ver) (hB : l.length ≤ 1048576) (hl : chainOk l) (K : AK) (S : Store) (h0 : K (.exit 0) (ofL [(2, .poison)]) S) :
    ∀ (n i : Nat), n + i = l.length → f76_L1 K (vers l) (iv i) S := by
  intro n
  induction n with
  | zero =>
    intro i hi
    refine f76_L1_pt ?_
    have : ¬ (i : Int) < l.length := by omega
    simp -implicitDefEqProofs [f76_l1, this]
    exact h0
  | succ n ih =>
    intro i hi
    refine f76_L1_pt ?_
    have h2 : i < l.length := by omega
    have h1 : (i : Int) < l.length := by omega
    have w1 : IntKind.i64.wrap ((i : Int) + 1) = i + 1 := wrap_id (by omega) (by omega)
    have x0 := ixA_ver l i S h2
    obtain ⟨hm, hk, hle⟩ := hl i h2
    simp -implicitDefEqProofs [f76_l1, h1, h2, x0]
    refine f174_c _ (by omega) S ?_
    by_cases hz : i = 0
    · subst hz
      simp -implicitDefEqProofs [hm, w1]
      have w3 : IntKind.i64.wrap 1 = 1 := rfl
      have := ih 1 (by omega)
      simpa [w3] using this
    · have hz' : (0 : Int) < i := by omega
      have hz2 : 0 < i := by omega
      have w2 : IntKind.i64.wrap ((i : Int) - 1) = ((i - 1 : Nat) : Int) := by rw [wrap_id (by omega) (by omega)]; omega
      have x1 := ixA_ver l (i - 1) S (by omega)
      simp -implicitDefEqProofs [hm, hz', hz2, w1, w2, x1, x0]
      refine f62_c _ _ S ?_
      simp -implicitDefEqProofs [hle hz2]
      exact ih (i + 1) (by omega)
theorem f76_c (l : List Ver) (hB : l.length ≤ 1048576) (hl : chainOk l) (S : Store) {Q : AV → Store → Prop} (h : Q (bv true) S) : ATriple PR 76 [vers l] S Q := by
  refine f76_ok ?_
  refine f76_loop l hB hl _ S ?_ l.length 0 rfl
  apply f76_K1_e0_pt
  exact dropQ_self h
def withoutF (l : List Ver) (v : Ver) : List Ver := l.filter fun x => x.less v || v.less x
theorem f78_loop (l : List Ver) (hB : l.length ≤ 1048576) (p : Ver) (S0 : Store) (K : AK) (r : List Ver) (h0 : ∀ v S S1, Sub S0 S1 → Grow 112 8 S1 (r.map Ver.cs) v S → K (.exit 0) (ofL [(5, v)]) S) :
    ∀ (n i : Nat) (out : List Ver) (v : AV) (S S1 : Store), n + i = l.length → out.length ≤ i → Sub S0 S1 → Grow 112 8 S1 (out.map Ver.cs) v S → r = out ++ (l.drop i).filter (fun x => x.less p || p.less x) → f78_L1 K (vers l) (.fptr p.cs 0) v (iv i) S := by
  intro n
  induction n with
  | zero =>
    intro i out v S S1 hi ha hs hg hr
    refine f78_L1_pt ?_
    have : ¬ (i : Int) < l.length := by omega
    rw [List.drop_of_length_le (by omega)] at hr
    simp -implicitDefEqProofs [f78_l1, this]
    simp at hr
    subst hr
    exact h0 _ _ _ hs hg
  | succ n ih =>
    intro i out v S S1 hi ha hs hg hr
    refine f78_L1_pt ?_
    have h2 : i < l.length := by omega
    have h1 : (i : Int) < l.length := by omega
    have w1 : IntKind.i64.wrap ((i : Int) + 1) = i + 1 := wrap_id (by omega) (by omega)
    have x0 := ixA_ver l i
    rw [List.drop_eq_getElem_cons h2] at hr
    have add : (l[i].less p || p.less l[i]) = true → bQ (frzOf (bslR true 8 112 8 1 1 [(0, l[i].av)])) fun t39 => apW (some (112, 8, 80, .slice)) v t39 S fun t40 S_2 => f78_L1 K (vers l) (.fptr p.cs 0) t40 (iv ((i : Int) + 1)) S_2 := by
      intro hc
      simp -implicitDefEqProofs only [bQ_some, bsl_ver]
      refine hg.ver _ (by omega) fun v' S' hg' => ?_
      exact ih (i + 1) _ v' S' S1 (by omega) (by simp; omega) hs hg' (by rw [hr, List.filter_cons, if_pos hc]; simp)
    simp -implicitDefEqProofs [f78_l1, h1, h2, x0]
    refine f62_c _ _ S ?_
    cases hc : (l[i]).less p with
    | true =>
      simp -implicitDefEqProofs only [gdQ_bv, gdE_undef, gdE_bv, bQ_some, condW_bv, apick_bv, w1, if_true, x0 S h2, ldv_ver]
      exact add (by simp [hc])
    | false =>
      simp -implicitDefEqProofs only [gdQ_bv, gdE_bv, bQ_some, condW_bv, apick_bv, w1, if_true, x0 S h2, ldv_ver]
      refine f62_c _ _ S ?_
      cases hd : p.less (l[i]) with
      | true =>
        exact (by simpa -implicitDefEqProofs [w1, bsl_ver] using add (by simp [hd]))
      | false =>
        simp -implicitDefEqProofs [w1]
        exact ih (i + 1) _ v _ S1 (by omega) (by omega) hs hg (by rw [hr, List.filter_cons, if_neg (by simp [hc, hd])])
theorem f18_loop (l : List Ver) (hB : l.length ≤ 1048576) (k : Bs) (S0 : Store) (K : AK) (r : List Ver) (h0 : ∀ v S S1, Sub S0 S1 → Grow 112 8 S1 (r.map Ver.cs) v S → K (.exit 0) (ofL [(5, v)]) S) :
    ∀ (n i : Nat) (out : List Ver) (v : AV) (S S1 : Store), n + i = l.length → out.length ≤ i → Sub S0 S1 → Grow 112 8 S1 (out.map Ver.cs) v S → r = out ++ (l.drop i).filter (fun x => x.key == k) → f18_L1 K (vers l) (sv k) v (iv i) S := by
  intro n
  induction n with
  | zero =>
    intro i out v S S1 hi ha hs hg hr
    refine f18_L1_pt ?_
    have : ¬ (i : Int) < l.length := by omega
    rw [List.drop_of_length_le (by omega)] at hr
    simp -implicitDefEqProofs [f18_l1, this]
    simp at hr
    subst hr
    exact h0 _ _ _ hs hg
  | succ n ih =>
    intro i out v S S1 hi ha hs hg hr
    refine f18_L1_pt ?_
    have h2 : i < l.length := by omega
    have h1 : (i : Int) < l.length := by omega
    have w1 : IntKind.i64.wrap ((i : Int) + 1) = i + 1 := wrap_id (by omega) (by omega)
    have x0 := ixA_ver l i
    have e1 : ∀ S, ldv false 1 (.fptr (l[i]).cs 0) S = some (sv (l[i]).key) := fun S => rfl
    rw [List.drop_eq_getElem_cons h2] at hr
    by_cases hc : (l[i]).key = k
    · simp -implicitDefEqProofs [f18_l1, h1, h2, x0, Ver.cs, hc, w1]
      have := hg.ver (K := fun t26 S_1 => f18_L1 K (vers l) (sv k) t26 (iv ((i : Int) + 1)) S_1) l[i] (by omega) fun v' S' hg' => ?_
      · simp only [Ver.cs, hc] at this
        exact this
      · exact ih (i + 1) _ v' S' S1 (by omega) (by simp; omega) hs hg' (by rw [hr, List.filter_cons, if_pos (by simpa using hc)]; simp)
    · simp -implicitDefEqProofs [f18_l1, h1, h2, x0, Ver.cs, hc, w1]
      exact ih (i + 1) _ v _ S1 (by omega) (by omega) hs hg (by rw [hr, List.filter_cons, if_neg (by simpa using hc)])
def ofF (l : List Ver) (k : Bs) : List Ver := l.filter fun x => x.key == k
theorem f18_c (l : List Ver) (k : Bs) (hB : l.length ≤ 1048576) (S : Store) {Q : AV → Store → Prop} (h : Q (vers (ofF l k)) S) : ATriple PR 18 [vers l, sv k] S Q := by
  refine f18_ok ?_
  refine f18_loop l hB k S _ (ofF l k) ?_ l.length 0 [] _ S S rfl (by simp) (.refl _) .nil rfl
  intro v S' S1 hs hg
  apply f18_K1_e0_pt
  exact ⟨_, _, hg.ent.trans (Ent.drop hs), h⟩
theorem f20_loop (l : List Ver) (hB : l.length ≤ 1048576) (k k2 : Bs) (S0 : Store) (K : AK) (r : List Ver) (h0 : ∀ v S S1, Sub S0 S1 → Grow 112 8 S1 (r.map Ver.cs) v S → K (.exit 0) (ofL [(7, v)]) S) :
    ∀ (n i : Nat) (out : List Ver) (v : AV) (S S1 : Store), n + i = l.length → out.length ≤ i → Sub S0 S1 → Grow 112 8 S1 (out.map Ver.cs) v S → r = out ++ (l.drop i).filter (fun x => !Op.bytesLess x.key k && Op.bytesLess x.key k2) → f20_L1 K (vers l) (sv k) (sv k2) v (iv i) S := by
  intro n
  induction n with
  | zero =>
    intro i out v S S1 hi ha hs hg hr
    refine f20_L1_pt ?_
    have : ¬ (i : Int) < l.length := by omega
    rw [List.drop_of_length_le (by omega)] at hr
    simp -implicitDefEqProofs [f20_l1, this]
    simp at hr
    subst hr
    exact h0 _ _ _ hs hg
  | succ n ih =>
    intro i out v S S1 hi ha hs hg hr
    refine f20_L1_pt ?_
    have h2 : i < l.length := by omega
    have h1 : (i : Int) < l.length := by omega
    have w1 : IntKind.i64.wrap ((i : Int) + 1) = i + 1 := wrap_id (by omega) (by omega)
    have x0 := ixA_ver l i
    rw [List.drop_eq_getElem_cons h2] at hr
    cases hc : Op.bytesLess (l[i]).key k with
    | true =>
      simp -implicitDefEqProofs [f20_l1, h1, h2, x0, Ver.cs, hc, w1]
      exact ih (i + 1) _ v _ S1 (by omega) (by omega) hs hg (by rw [hr, List.filter_cons, if_neg (by simp [hc])])
    | false =>
      cases hd : Op.bytesLess (l[i]).key k2 with
      | false =>
        simp -implicitDefEqProofs [f20_l1, h1, h2, x0, Ver.cs, hc, hd, w1]
        exact ih (i + 1) _ v _ S1 (by omega) (by omega) hs hg (by rw [hr, List.filter_cons, if_neg (by simp [hc, hd])])
      | true =>
        simp -implicitDefEqProofs [f20_l1, h1, h2, x0, Ver.cs, hc, hd, w1]
        have := hg.ver (K := fun t26 S_1 => f20_L1 K (vers l) (sv k) (sv k2) t26 (iv ((i : Int) + 1)) S_1) l[i] (by omega) fun v' S' hg' => ?_
        · simp only [Ver.cs] at this
          exact this
        · exact ih (i + 1) _ v' S' S1 (by omega) (by simp; omega) hs hg' (by rw [hr, List.filter_cons, if_pos (by simp [hc, hd])]; simp)
def rangeF (l : List Ver) (k k2 : Bs) : List Ver := l.filter fun x => !Op.bytesLess x.key k && Op.bytesLess x.key k2
theorem f20_c (l : List Ver) (k k2 : Bs) (hB : l.length ≤ 1048576) (S : Store) {Q : AV → Store → Prop} (h : Q (vers (rangeF l k k2)) S) : ATriple PR 20 [vers l, sv k, sv k2] S Q := by
  refine f20_ok ?_
  refine f20_loop l hB k k2 S _ (rangeF l k k2) ?_ l.length 0 [] _ S S rfl (by simp) (.refl _) .nil rfl
  intro v S' S1 hs hg
  apply f20_K1_e0_pt
  exact ⟨_, _, hg.ent.trans (Ent.drop hs), h⟩
end Go.Du
namespace Go.Du
open Go
attribute [local irreducible] ATriple W evP AI
theorem f358_step (S : Store) (t : Nat) (es : List (List AV)) (hl : es.length = 8) (hes : ∀ i, i < 8 → es[i]? = some [uv 0]) (i : Nat) (hi : i < 8) (K : AK) (h : f358_L2 K (iv 0) (.sref t 0 8) (bv false) (iv ((i : Int) - 1)) (S.set t (.row 5 1 es))) :
    f358_L2 K (iv 0) (.sref t 0 8) (bv false) (iv i) (S.set t (.row 5 1 es)) := by
  refine f358_L2_pt ?_
  have w1 : IntKind.i64.wrap ((i : Int) - 1) = (i : Int) - 1 := wrap_id (by omega) (by omega)
  have e1 : abi .rem (iv 0) (iv 256) = some (iv 0) := rfl
  have e2 : abi .quo (iv 0) (iv 256) = some (iv 0) := rfl
  have e3 : ∀ S, acv (.int .u8) (iv 0) S = some (uv 0) := fun S => rfl
  have hi' : (i : Int) < 8 := by omega
  have e4 : es.set i [uv 0] = es := by
    apply List.ext_getElem? fun k => ?_
    rw [List.getElem?_set]; split
    · rename_i e; subst e; rw [if_pos (by omega), hes _ hi]
    · rfl
  simp -implicitDefEqProofs [f358_l2, w1, e1, e2, e3, ixA, litInt, aix, hi']
  rw [stv_ptr1 1 t i 0 (uv 0) _ (Store.set_same _ _ _) (cs := [uv 0]) (hes i hi) rfl rfl (by simp)]
  have e5 : splice [uv 0] 0 (cellsOf (uv 0)) = [uv 0] := rfl
  rw [e5, e4, thenS_some, Store.set_set]
  exact h
theorem f358_c0 (S : Store) {Q : AV → Store → Prop} (h : Q (bytes [128, 0, 0, 0, 0, 0, 0, 0]) S) : ATriple PR 358 [iv 0] S Q := by
  refine f358_ok ?_
  have hes : ∀ i, i < 8 → (List.replicate 8 [uv 0])[i]? = some [uv 0] := fun i hi => by rw [List.getElem?_replicate, if_pos hi]
  have hl : (List.replicate 8 [uv 0]).length = 8 := List.length_replicate
  have hset : (List.replicate 8 [uv 0]).set 0 [uv 128] = byt [128, 0, 0, 0, 0, 0, 0, 0] := rfl
  simp -implicitDefEqProofs only [f358_s, newW_own]
  intro t ht
  generalize List.replicate 8 [uv 0] = es at hes hl hset ⊢
  simp -implicitDefEqProofs
  refine f358_J1_pt ?_
  simp -implicitDefEqProofs only [f358_j1]
  refine f358_step S t es hl hes 7 (by omega) _ ?_
  refine f358_step S t es hl hes 6 (by omega) _ ?_
  refine f358_step S t es hl hes 5 (by omega) _ ?_
  refine f358_step S t es hl hes 4 (by omega) _ ?_
  refine f358_step S t es hl hes 3 (by omega) _ ?_
  refine f358_step S t es hl hes 2 (by omega) _ ?_
  refine f358_step S t es hl hes 1 (by omega) _ ?_
  refine f358_step S t es hl hes 0 (by omega) _ ?_
  refine f358_L2_pt ?_
  simp -implicitDefEqProofs [f358_l2]
  apply f358_K1_e0_pt
  have e1 : ∀ (S : Store) o, ixA 1 (.sref t 0 8) (iv 0) (S.set t (.row 5 1 o)) = some (.ptr t 0 0) := fun S o => by simp [ixA, litInt, aix]
  have e2 : abi .add (uv 0) (uv 128) = some (uv 128) := rfl
  have e3 : ∀ S : Store, ldv false 1 (.ptr t 0 0) (S.set t (.row 5 1 es)) = some (uv 0) := fun S => by rw [ldv_ptr1 _ _ _ _ _ _ (Store.set_same _ _ _) (hes 0 (by omega))]; rfl
  have e4 := stv_ptr1 1 t 0 0 (uv 128) (S.set t (.row 5 1 es)) (Store.set_same _ _ _) (hes 0 (by omega)) rfl rfl (by simp)
  have e5 : splice [uv 0] 0 [uv 128] = [uv 128] := rfl
  simp -implicitDefEqProofs [f358_K1_e0, e1, e2, e3, e4]
  rw [e5, hset]
  exact ⟨_, S, Ent.list ht rfl, h⟩
theorem f357_c0 (S : Store) {Q : AV → Store → Prop} (h : Q (bytes [107, 0, 1]) S) : ATriple PR 357 [sv [107]] S Q := by
  refine f357_ok ?_
  simp -implicitDefEqProofs [f357_s]
  refine f357_L1_pt ?_
  have e1 : aixS (sv [107]) (iv 0) = some (uv 107) := aixS_sv [107] 0 (by simp)
  simp -implicitDefEqProofs [f357_l1, e1, bsl_byte]
  refine (Grow.nil (S0 := S)).byte (acc := []) 107 (by simp) fun v S1 h1 => ?_
  have w1 : IntKind.i64.wrap 1 = 1 := rfl
  rw [w1]
  refine f357_L1_pt ?_
  simp -implicitDefEqProofs [f357_l1]
  apply f357_K1_e0_pt
  have e2 : frzOf (bslR true 1 5 1 2 2 [(0, uv 0), (1, uv 1)]) = some (bytes [0, 1]) := rfl
  simp -implicitDefEqProofs only [f357_K1_e0, e2, bQ_some]
  refine h1.app (l := byt [0, 1]) rfl (by simp) (by simp) (by simp) fun v2 S2 h2 => ?_
  exact ⟨_, _, h2.ent, h⟩
theorem Grow.bytes {Sa S : Store} {acc l : Bs} {v x : AV} {K : AV → Store → Prop} (h : Grow 5 1 Sa (byt acc) v S) (hx : rdS x S = some (byt l)) (hb : acc.length + l.length ≤ 1099511627776) (hk : ∀ v' S', Grow 5 1 Sa (byt (acc ++ l)) v' S' → K v' S') : apW (some (5, 1, 1, .slice)) v x S K := by
  refine h.app (l := byt l) hx (by simp [byt]) (by simp; omega) (by simp; omega) fun v' S' hg => hk v' S' ?_
  simpa [byt] using hg
theorem f220_c0 (S : Store) {Q : AV → Store → Prop} (h : Q (bytes [1, 128, 0, 0, 0, 0, 0, 0, 0, 2, 107, 0, 1]) S) : ATriple PR 220 [.svals (prts [.num 0, .txt [107]])] S Q := by
  refine f220_ok ?_
  simp -implicitDefEqProofs only [f220_s]
  have x0 := fun S => ixA_map Prt.cs [.num 0, .txt [107]] 0 3 S (by simp) Prt.cs_length
  have x1 := fun S => ixA_map Prt.cs [.num 0, .txt [107]] 1 3 S (by simp) Prt.cs_length
  simp only [Int.natCast_zero, Int.cast_ofNat_Int, Int.natCast_one, List.getElem_cons_zero, List.getElem_cons_succ, List.map_cons, List.map_nil, Prt.cs] at x0 x1
  have b1 := bsl_byte 1 S
  have b2 := bsl_byte 2 S
  refine f220_L1_pt ?_
  simp -implicitDefEqProofs [f220_l1, x0, b1, Prt.cs]
  refine (Grow.nil (S0 := S)).byte (acc := []) 1 (by simp) fun v S1 h1 => ?_
  refine f358_c0 S1 ?_
  refine h1.bytes (l := [128, 0, 0, 0, 0, 0, 0, 0]) rfl (by simp) fun v S1 h1 => ?_
  have w1 : IntKind.i64.wrap 1 = 1 := rfl
  have w2 : IntKind.i64.wrap 2 = 2 := rfl
  rw [w1]
  refine f220_L1_pt ?_
  simp -implicitDefEqProofs [f220_l1, x1, b2]
  refine h1.byte 2 (by simp) fun v S1 h1 => ?_
  refine f357_c0 S1 ?_
  refine h1.bytes (l := [107, 0, 1]) rfl (by simp) fun v S1 h1 => ?_
  rw [w2]
  refine f220_L1_pt ?_
  simp -implicitDefEqProofs [f220_l1]
  apply f220_K1_e0_pt
  exact ⟨_, _, h1.ent, h⟩
def kKey : Bs := [1, 128, 0, 0, 0, 0, 0, 0, 0, 2, 107, 0, 1]
theorem f88_c0 (S : Store) {Q : AV → Store → Prop} (h : Q (sv kKey) S) : ATriple PR 88 [iv 0, sv [107]] S Q := by
  refine f88_ok ?_
  have b1 : abld [.lit (.bool false), .lit (.int .i64 0), .lit (.string ⟨#[]⟩)] [(1, 1, iv 0)] = some (.agg (Prt.num 0).cs) := by simp [abld, afill, splice, Prt.cs]
  have b2 : abld [.lit (.bool false), .lit (.int .i64 0), .lit (.string ⟨#[]⟩)] [(0, 1, .lit (.bool true)), (2, 1, sv [107])] = some (.agg (Prt.txt [107]).cs) := by simp [abld, afill, splice, Prt.cs]
  have b3 : frzOf (bslR true 3 296 3 2 2 [(0, .agg (Prt.num 0).cs), (1, .agg (Prt.txt [107]).cs)]) = some (.svals (prts [.num 0, .txt [107]])) := rfl
  simp -implicitDefEqProofs only [f88_s, b1, b2, b3, bQ_some]
  refine f220_c0 S ?_
  rw [acv_byt (l := kKey) rfl, bQ_some]
  exact dropQ_self h
end Go.Du
