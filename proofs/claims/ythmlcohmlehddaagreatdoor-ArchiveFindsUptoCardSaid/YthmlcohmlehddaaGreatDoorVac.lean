/- What is proved: at every archive row that the statement's guards let in, the rows of a key, and of keys, are the document's, so that the spec answers true.
Conditions: the call's arguments together hold at most 1048576 values and letters (the card's own bound); no other. -/
import Derived.OrdersIn
import Derived.Test.YthmlcohmlehddaaGreatDoorProg
import Derived.KernelRfl
import Derived.IntWalk
import Derived.Test.YthmlcohmlehddaaGreatDoorVab
set_option linter.all false
namespace Go.Du
open Go
def undefA : AV := .tuple []
def opP (P : Program) (o : Oper) (st : St) (S : Store) : Option AV :=
  match o.op with
  | .build t parts => opB P t parts st
  | .lookup t x k ok => match P.underlying t with
    | some (.map kt et) => match P.underlying kt, P.info? et with
      | some .string, some inf => match inf.zero with
        | some z => if constOk z then alook (AV.ofValue z) ok (aev st x) (aev st k) S else none
        | none => none
      | some (.struct _), some inf => match inf.zero, ckT P 20 kt with
        | some z, some ks => if constOk z then alookR ks (AV.ofValue z) ok (aev st x) (aev st k) S else none
        | _, _ => none
      | _, _ => none
    | _ => none
  | _ => opV P o st S
theorem opP_ok {P : Program} {m : Mu} {w : World} {S : Store} (h : Rel m S w) {n : Nat} {st : St} {a : Act} (ht : RelT m n st a.tmps) {o : Oper} (hops : opdsOk n o = true) {x : AV} (hx : opP P o st S = some x) : pureOk P m w a.eval o x := by
  unfold opP at hx
  split at hx
  · rename_i t parts ho
    exact opB_ok ht hops ho hx
  · rename_i t y k ok ho
    split at hx
    · rename_i kt et hu
      split at hx
      · rename_i inf hk hi
        split at hx
        · rename_i z hz
          split at hx
          · rename_i hc
            have hall := Array.all_eq_true_iff_forall_mem.1 hops
            have ry := relV_aev ht (hall y (by simp [ho, Op.operands]))
            have rk := relV_aev ht (hall k (by simp [ho, Op.operands]))
            obtain ⟨u, hu', hr⟩ := alook_ok (P := P) h hu hk hi hz hc ry rk hx
            exact ⟨u, by simp [execOp, ho, hu'], hr⟩
          · cases hx
        · cases hx
      · rename_i fs inf hk hi
        split at hx
        · rename_i z ks hz hks
          split at hx
          · rename_i hc
            have hall := Array.all_eq_true_iff_forall_mem.1 hops
            have ry := relV_aev ht (hall y (by simp [ho, Op.operands]))
            have rk := relV_aev ht (hall k (by simp [ho, Op.operands]))
            obtain ⟨u, hu', hr⟩ := alookR_ok (P := P) h hu hk hks hi hz hc ry rk hx
            exact ⟨u, by simp [execOp, ho, hu'], hr⟩
          · cases hx
        · cases hx
      · cases hx
    · cases hx
  · exact opV_ok h ht hops hx
def isNew (P : Program) (o : Oper) : Bool :=
  match o.op with
  | .alloc _ | .box _ _ | .buildSlice _ _ _ | .makeMap _ _ | .makeSlice _ _ _ => true
  | .convert src _ _ => match P.underlying src with
    | some .string => true
    | _ => false
  | _ => false
def opQ (P : Program) (fz : Bool) (o : Oper) (st : St) (S : Store) : Option AV :=
  match isNew P o with
  | true => match opN P fz o st with
    | some (.frz x) => some x
    | _ => none
  | false => opP P o st S
theorem opQ_ok {P : Program} {m : Mu} {w : World} {S : Store} (h : Rel m S w) {n : Nat} {st : St} {a : Act} (ht : RelT m n st a.tmps) {o : Oper} (hops : opdsOk n o = true) {fz : Bool} {x : AV} (hx : opQ P fz o st S = some x) :
    ∃ v w' m', (execOp a.eval o).run P w = .ok (.value v) w' ∧ m.le m' ∧ m'.H = m.H ∧ Rel m' S w' ∧ RelV m' x v := by
  unfold opQ at hx
  split at hx
  · split at hx
    · rename_i y hn
      simp only [Option.some.injEq] at hx; subst hx
      obtain ⟨v, w', m', h1, h2, h3, _, h5, h6⟩ := opN_ok h ht hops hn
      exact ⟨v, w', m', h1, h2, h3, h5, h6⟩
    · cases hx
  · obtain ⟨v, h1, h2⟩ := opP_ok h ht hops hx
    exact ⟨v, w, m, h1, .refl m, rfl, h, h2⟩
def apI (P : Program) (t tx : TypeId) : Option (TypeId × Nat × Nat × KindT) :=
  match P.underlying t with
  | some (.slice e) => match P.info? e, kindT P tx with
    | some i, some k => match i.zero with
      | some z => if z.cells.size = i.size ∧ z.cells.all Value.oneCell' = true ∧ 0 < i.size then some (e, i.size, i.bytes, k) else none
      | none => none
    | _, _ => none
  | _ => none
def apSrc (k : KindT) (sz : Nat) (x : AV) (S : Store) : Option (List (List AV)) :=
  match k with
  | .str => match x with
    | .lit (.string s) => if sz = 1 then some (bytesAV s) else none
    | _ => none
  | .slice => rdS x S
def apW (i : Option (TypeId × Nat × Nat × KindT)) (base x : AV) (S : Store) (K : AV → Store → Prop) : Prop :=
  match i with
  | some (e, sz, bytes, k) => match apSrc k sz x S with
    | some l => apK e sz bytes base l S K
    | none => False
  | none => False
def strMap (P : Program) (t : TypeId) : Bool :=
  match P.underlying t with
  | some (.map kt _) => match P.underlying kt with
    | some .string => true
    | _ => false
  | _ => false
theorem strMap_spec {P : Program} {t : TypeId} (h : strMap P t = true) : ∃ kt et, P.underlying t = some (.map kt et) ∧ P.underlying kt = some .string := by
  unfold strMap at h
  split at h
  · rename_i kt et hu
    split at h
    · rename_i hk; exact ⟨kt, et, hu, hk⟩
    · cases h
  · cases h
def mapK (P : Program) (t : TypeId) : Bool := strMap P t || (recMap P t).isSome
theorem mapK_spec {P : Program} {t : TypeId} (h : mapK P t = true) : ∃ kt et, P.underlying t = some (.map kt et) := by
  unfold mapK at h
  rw [Bool.or_eq_true] at h
  rcases h with h | h
  · obtain ⟨kt, et, hu, _⟩ := strMap_spec h; exact ⟨kt, et, hu⟩
  · obtain ⟨ks, hk⟩ := Option.isSome_iff_exists.1 h
    obtain ⟨kt, et, _, hu, _⟩ := recMap_spec hk; exact ⟨kt, et, hu⟩
def thenS (r : Option Store) (K : AV → Store → Prop) : Prop :=
  match r with
  | some S => K undefA S
  | none => False
def isSl (P : Program) (t : TypeId) : Bool :=
  match P.underlying t with
  | some (.slice _) => true
  | _ => false
def capW (x : AV) (S : Store) (K : AV → Store → Prop) : Prop :=
  match x with
  | .sref _ _ n => ∀ c : Nat, n ≤ c → K (.lit (.int .i64 c)) S
  | .svals l => ∀ c : Nat, l.length ≤ c → K (.lit (.int .i64 c)) S
  | .s0 => K (.lit (.int .i64 0)) S
  | .lit (.slice none 0 0) => K (.lit (.int .i64 0)) S
  | _ => False
def capA (x : AV) (S : Store) (K : AV → Store → Prop) : Prop := capW x S K ∨ capF x S K
def apB (z : Option (TypeId × Nat × Nat × List AV)) (i : Option (TypeId × Nat × Nat × KindT)) (base x : AV) (S : Store) (K : AV → Store → Prop) : Prop :=
  match z with
  | some q => apZ (some q) base x S K
  | none => apW i base x S K
def effW (P : Program) (o : Oper) (st : St) (S : Store) (K : AV → Store → Prop) : Prop :=
  match o.op with
  | .store t a x => match P.info? t with
    | some inf => thenS (stv inf.size (aev st a) (aev st x) S) K
    | none => False
  | .mapUpdate t mp k x => match strMap P t with
    | true => thenS (amput (aev st mp) (aev st k) (aev st x) S) K
    | false => match recMap P t with
      | some ks => thenS (amputR ks (aev st mp) (aev st k) (aev st x) S) K
      | none => False
  | .call { callee := .value f, args, .. } => callW P (aev st f) (args.toList.map (aev st)) S K
  | .call { callee := .invoke r name, args, .. } => AInv P (aev st r) name (args.toList.map (aev st)) S K
  | .call { callee := .builtin .append, args, argTypes } => match argTypes.toList, args.toList with
    | [t, tx], [b, x] => apB (apZI P t tx) (apI P t tx) (aev st b) (aev st x) S K
    | _, _ => False
  | .call { callee := .builtin .delete, args, argTypes } => match argTypes[0]?, args.toList with
    | some t, [mp, k] => match strMap P t with
      | true => thenS (amdel (aev st mp) (aev st k) S) K
      | false => False
    | _, _ => False
  | .call { callee := .builtin .cap, args, argTypes } => match argTypes[0]?, args.toList with
    | some t, [x] => match isSl P t with
      | true => capA (aev st x) S K
      | false => False
    | _, _ => False
  | .call { callee := .builtin .clear, args, argTypes } => match argTypes[0]?, args.toList with
    | some t, [x] => clearW (zInfo P t) (aev st x) S K
    | _, _ => False
  | .call { callee := .builtin .copy, args, argTypes } => match argTypes[0]?, args.toList with
    | some t, [d, x] => copyW (zInfo P t) (aev st d) (aev st x) S K
    | _, _ => False
  | .range t x => match mapK P t with
    | true => rangeW (aev st x) S K
    | false => False
  | .next x false => nextW (aev st x) S K
  | .entry x => entryW (aev st x) S K
  | _ => False
def evW (P : Program) (o : Oper) (st : St) (S : Store) (K : AV → Store → Prop) : Prop :=
  match isNew P o with
  | true => match opN P false o st with
    | some (.own ob f) => ∀ t, S t = none → K (f t) (S.set t ob)
    | some (.frz x) => K x S
    | none => False
  | false => effW P o st S K
section
variable {P : Program} {m : Mu} {w : World} {S : Store} {K : AV → Store → Prop}
theorem capW_ok (h : Rel m S w) {x : AV} {v : Value} (hv : RelV m x v) {t ty : TypeId} {ats : Array TypeId} (hat : ats[0]? = some t) (ht : isSl P t = true) (hK : capW x S K) : ∃ u, (Builtin.cap_ ats ty #[v]).run P w = .ok u w ∧ effR m K u w := by
  unfold isSl at ht
  split at ht
  · rename_i e hu
    unfold capW at hK
    have fin : ∀ (a : Option Addr) (n c : Nat), v = .slice a n c → K (.lit (.int .i64 c)) S → ∃ u, (Builtin.cap_ ats ty #[v]).run P w = .ok u w ∧ effR m K u w := by
      rintro a n c rfl hk
      exact ⟨.int .i64 c, by simp [Builtin.cap_, hat, run_underlying hu, goInt], _, _, m, hk, .refl m, rfl, h, .lit _ rfl⟩
    split at hK
    · cases hv with
      | sref hL hc => exact fin _ _ _ rfl (hK _ (by omega))
    · cases hv with
      | sempty a c => exact fin _ _ _ rfl (hK _ (Nat.zero_le _))
      | svals hz hl f hc h1 hr hcap => exact fin _ _ _ rfl (hK _ hcap)
    · cases hv with
      | s0 a => exact fin _ _ _ rfl hK
    · have := hv.lit_inv
      exact fin _ _ _ this hK
    · exact hK.elim
  · cases ht
theorem apW_ok (h : Rel m S w) {t tx ty : TypeId} {base x : AV} {v u : Value} (hv : RelV m base v) (hx : RelV m x u) (hK : apW (apI P t tx) base x S K) : ∃ y w', (Builtin.append_ #[t, tx] ty #[v, u]).run P w = .ok y w' ∧ effR m K y w' := by
  unfold apW at hK
  split at hK
  · rename_i e sz bytes k hap
    unfold apI at hap
    split at hap
    · rename_i e' hu
      split at hap
      · rename_i i k' hi hk
        split at hap
        · rename_i z hz
          split at hap
          · rename_i hc
            obtain ⟨c1, c2, c3⟩ := hc
            simp only [Option.some.injEq, Prod.mk.injEq] at hap
            obtain ⟨rfl, rfl, rfl, rfl⟩ := hap
            split at hK
            · rename_i l hl
              have hz1 : ∀ u ∈ z.cells.toList, u.oneCell' = true := fun u hu => by
                rw [Array.all_eq_true] at c2
                obtain ⟨j, hj, rfl⟩ := List.mem_iff_getElem.1 hu
                simpa using c2 j (by simpa using hj)
              have hlen : ∀ c ∈ l, c.length = i.size := hK.1
              obtain ⟨news, hs, hf⟩ := src_ok (P := P) h hx hk c3 (l := l) (by
                unfold apSrc at hl
                cases k' with
                | str =>
                  dsimp only at hl ⊢
                  split at hl
                  · split at hl
                    · simpa [srcA] using hl
                    · cases hl
                  · cases hl
                | slice => exact hl) hlen (fun hk' => by
                  subst hk'
                  unfold apSrc at hl
                  dsimp only at hl
                  split at hl
                  · split at hl
                    · rename_i s h1; exact ⟨h1, s, rfl⟩
                    · cases hl
                  · cases hl)
              exact apK_ok h hu hi hz c1 hz1 c3 hv hs hf hK
            · exact hK.elim
          · cases hap
        · cases hap
      · cases hap
    · cases hap
  · exact hK.elim
theorem relVs_map {n : Nat} {st : St} {a : Act} (ht : RelT m n st a.tmps) (xs : Array Operand) (hx : ∀ y ∈ xs, opdOk n y = true) : RelVs m (xs.toList.map (aev st)) (xs.map a.eval) := by
  refine ⟨by simp, fun i hi => ?_⟩
  have hi' : i < xs.size := by simpa using hi
  simp only [List.getElem_map, Array.getElem_toList, Array.getD, Array.size_map, hi', ↓reduceDIte, Array.getInternal_eq_getElem, Array.getElem_map]
  exact relV_aev ht (hx _ (Array.getElem_mem hi'))
theorem thenS_ok {r : Option Store} (hK : thenS r K) : ∃ S', r = some S' ∧ K undefA S' := by
  unfold thenS at hK
  split at hK
  · exact ⟨_, rfl, hK⟩
  · exact hK.elim
theorem effW_ok (hP : NoNG P) (h : Rel m S w) {n : Nat} {st : St} {a : Act} (ht : RelT m n st a.tmps) {o : Oper} (hops : opdsOk n o = true) (hK : effW P o st S K) : NextOk P ((execOp a.eval o).run P w) (effR m K) := by
  have hall := Array.all_eq_true_iff_forall_mem.1 hops
  have rel : ∀ x ∈ o.op.operands, RelV m (aev st x) (a.eval x) := fun x hx => relV_aev ht (hall x hx)
  unfold effW at hK
  split at hK
  · rename_i t p x ho
    split at hK
    · rename_i inf hi
      obtain ⟨S', hs, hk⟩ := thenS_ok hK
      obtain ⟨w', hr, hrel⟩ := stv_ok (P := P) h hi (rel p (by simp [ho, Op.operands])) (rel x (by simp [ho, Op.operands])) hs
      simp only [execOp, ho, Sem.run_bind, hr, Result.andThen_ok, Sem.run_pure, NextOk]
      exact ⟨_, _, m, hk, .refl m, rfl, hrel, .undef m⟩
    · exact hK.elim
  · rename_i t mp k x ho
    split at hK
    · rename_i hsm
      obtain ⟨kt, et, hu, hkt⟩ := strMap_spec hsm
      obtain ⟨S', hs, hk⟩ := thenS_ok hK
      obtain ⟨w', hr, hrel⟩ := amput_ok (P := P) h hu hkt (rel mp (by simp [ho, Op.operands])) (rel k (by simp [ho, Op.operands])) (rel x (by simp [ho, Op.operands])) hs
      simp only [execOp, ho, Sem.run_bind, hr, Result.andThen_ok, Sem.run_pure, NextOk]
      exact ⟨_, _, m, hk, .refl m, rfl, hrel, .undef m⟩
    · split at hK
      · rename_i ks hrm
        obtain ⟨kt, et, fs, hu, hkt, hks⟩ := recMap_spec hrm
        obtain ⟨S', hs, hk⟩ := thenS_ok hK
        obtain ⟨w', hr, hrel⟩ := amputR_ok (P := P) h hu hkt hks (rel mp (by simp [ho, Op.operands])) (rel k (by simp [ho, Op.operands])) (rel x (by simp [ho, Op.operands])) hs
        simp only [execOp, ho, Sem.run_bind, hr, Result.andThen_ok, Sem.run_pure, NextOk]
        exact ⟨_, _, m, hk, .refl m, rfl, hrel, .undef m⟩
      · exact hK.elim
  · rename_i f args ats ho
    have ha := relVs_map ht args (fun y hy => hall y (by simp [ho, Op.operands, Call.operands, hy]))
    have := callW_ok hP h (rel f (by simp [ho, Op.operands, Call.operands])) ha hK
    simpa [execOp, ho, resolve] using this
  · rename_i r name args ats ho
    have ha := relVs_map ht args (fun y hy => hall y (by simp [ho, Op.operands, Call.operands, hy]))
    have := hK m w (a.eval r) _ h (rel r (by simp [ho, Op.operands, Call.operands])) ha
    have e : (#[a.eval r] ++ args.map a.eval)[0]? = some (a.eval r) := by
      exact (Array.getElem?_append_left (show 0 < (#[a.eval r] : Array Value).size from Nat.zero_lt_one)).trans rfl
    have e2 : (#[a.eval r] ++ args.map a.eval).extract 1 (#[a.eval r] ++ args.map a.eval).size = args.map a.eval := by simp
    simp only [execOp, ho, resolve, invoke, Sem.run_bind, Sem.run_pure, Result.andThen_ok, e, e2]
    exact this
  · rename_i args ats ho
    split at hK
    · rename_i t tx b x hats hargs
      have e1 : ats = #[t, tx] := by cases ats; simp_all
      have e2 : args = #[b, x] := by cases args; simp_all
      subst e1 e2
      obtain ⟨y, w', hr, he⟩ : ∃ y w', (Builtin.append_ #[t, tx] o.type #[a.eval b, a.eval x]).run P w = .ok y w' ∧ effR m K y w' := by
        unfold apB at hK
        split at hK
        · rename_i q hq
          rw [← hq] at hK
          exact apZ_ok (P := P) (ty := o.type) h (rel b (by simp [ho, Op.operands, Call.operands])) (rel x (by simp [ho, Op.operands, Call.operands])) hK
        · exact apW_ok (P := P) (ty := o.type) h (rel b (by simp [ho, Op.operands, Call.operands])) (rel x (by simp [ho, Op.operands, Call.operands])) hK
      simp [execOp, ho, resolve, invoke, builtin, hr, NextOk]
      exact he
    · exact hK.elim
  · rename_i args ats ho
    split at hK
    · rename_i t mp k hat hargs
      have e2 : args = #[mp, k] := by cases args; simp_all
      subst e2
      split at hK
      · rename_i hsm
        obtain ⟨kt, et, hu, hkt⟩ := strMap_spec hsm
        obtain ⟨S', hs, hk⟩ := thenS_ok hK
        obtain ⟨w', hr, hrel⟩ := amdel_ok (P := P) (ty := o.type) h hat hu hkt (rel mp (by simp [ho, Op.operands, Call.operands])) (rel k (by simp [ho, Op.operands, Call.operands])) hs
        simp [execOp, ho, resolve, invoke, builtin, hr, NextOk]
        exact ⟨_, _, m, hk, .refl m, rfl, hrel, .undef m⟩
      · exact hK.elim
    · exact hK.elim
  · rename_i args ats ho
    split at hK
    · rename_i t x hat hargs
      have e2 : args = #[x] := by cases args; simp_all
      subst e2
      split at hK
      · rename_i hsl
        have rx := rel x (by simp [ho, Op.operands, Call.operands])
        obtain ⟨u, w', hr, he⟩ : ∃ u w', (Builtin.cap_ ats o.type #[a.eval x]).run P w = .ok u w' ∧ effR m K u w' := by
          rcases hK with hK | hK
          · obtain ⟨u, hr, he⟩ := capW_ok (P := P) (ty := o.type) h rx hat hsl hK
            exact ⟨u, w, hr, he⟩
          · unfold isSl at hsl
            split at hsl
            · rename_i e hu
              exact capF_ok (P := P) (ty := o.type) h rx hat hu hK
            · cases hsl
        simp [execOp, ho, resolve, invoke, builtin, hr, NextOk]
        exact he
      · exact hK.elim
    · exact hK.elim
  · rename_i args ats ho
    split at hK
    · rename_i t x hat hargs
      have e2 : args = #[x] := by cases args; simp_all
      subst e2
      obtain ⟨u, w', hr, he⟩ := clearW_ok (P := P) (ty := o.type) h (rel x (by simp [ho, Op.operands, Call.operands])) hat hK
      simp [execOp, ho, resolve, invoke, builtin, hr, NextOk]
      exact he
    · exact hK.elim
  · rename_i args ats ho
    split at hK
    · rename_i t d x hat hargs
      have e2 : args = #[d, x] := by cases args; simp_all
      subst e2
      obtain ⟨u, w', hr, he⟩ := copyW_ok (P := P) (ty := o.type) h (rel d (by simp [ho, Op.operands, Call.operands])) (rel x (by simp [ho, Op.operands, Call.operands])) hat hK
      simp [execOp, ho, resolve, invoke, builtin, hr, NextOk]
      exact he
    · exact hK.elim
  · rename_i t x ho
    split at hK
    · rename_i hsm
      obtain ⟨kt, et, hu⟩ := mapK_spec hsm
      obtain ⟨u, w', hr, he⟩ := rangeW_ok (P := P) h (rel x (by simp [ho, Op.operands])) hu hK
      simp [execOp, ho, hr, NextOk]
      exact he
    · exact hK.elim
  · rename_i x ho
    obtain ⟨u, w', hr, he⟩ := nextW_ok (P := P) h (rel x (by simp [ho, Op.operands])) o.type hK
    simp [execOp, ho, hr, NextOk]
    exact he
  · rename_i x ho
    obtain ⟨u, w', hr, he⟩ := entryW_ok (P := P) h (rel x (by simp [ho, Op.operands])) hK
    simp [execOp, ho, hr, NextOk]
    exact he
  · exact hK.elim
theorem evW_ok (hP : NoNG P) (h : Rel m S w) {n : Nat} {st : St} {a : Act} (ht : RelT m n st a.tmps) {o : Oper} (hops : opdsOk n o = true) (hK : evW P o st S K) : NextOk P ((execOp a.eval o).run P w) (effR m K) := by
  unfold evW at hK
  split at hK
  · split at hK
    · rename_i ob f hn
      obtain ⟨t, f1, f2⟩ := h.fresh
      obtain ⟨v, w', L, h1, h2, h3⟩ := opN_ok h ht hops hn t f1
      rw [h1]
      exact ⟨_, _, _, hK t f2, Mu.le_name f1, rfl, h2, h3⟩
    · rename_i x hn
      obtain ⟨v, w', m', h1, h2, h3, _, h5, h6⟩ := opN_ok h ht hops hn
      rw [h1]
      exact ⟨_, _, m', hK, h2, h3, h5, h6⟩
    · exact hK.elim
  · exact effW_ok hP h ht hops hK
end
end Go.Du
namespace Go.Du
open Go
inductive Plan where
  | done
  | q (i : Nat) (fz : Bool) (p : Plan)
  | e (i : Nat) (chk : List (Nat × Bool)) (p : Plan)
  | fork (a b : Plan)
def bQ (r : Option AV) (k : AV → Prop) : Prop :=
  match r with
  | some v => k v
  | none => False
def gdOf (ops : Array Oper) (o : Oper) : Option (Option (Nat × Bool)) :=
  match o.guard with
  | none => some none
  | some (j, want) => match ops[j]? with
    | some o' => match o'.dst with
      | some d => some (some (d, want))
      | none => none
    | none => none
def gdW (g : AV) (want : Bool) (A B : Prop) : Prop :=
  match g with
  | .lit (.bool b) => if b = want then A else B
  | .tuple [] => B
  | _ => False
def gdK (g : Option (Option (Nat × Bool))) (st : St) (A B : Prop) : Prop :=
  match g with
  | some none => A
  | some (some (d, want)) => gdW (st d) want A B
  | none => False
def gdQ (g : AV) (want : Bool) (r : Option AV) (k : AV → Prop) : Prop := gdW g want (bQ r k) (k undefA)
def gdE (g : AV) (want : Bool) (ev : (AV → Store → Prop) → Prop) (S : Store) (k : AV → Store → Prop) : Prop := gdW g want (ev k) (k undefA S)
def rq1 (P : Program) (ops : Array Oper) (fz : Bool) (o : Oper) (st : St) (S : Store) (x : St) : Prop :=
  gdK (gdOf ops o) st (match o.dst with
    | some d => opQ P fz o st S = some (x d)
    | none => ∃ v, opQ P fz o st S = some v) (match o.dst with
    | some d => x d = undefA
    | none => True)
def reck (P : Program) (ops : Array Oper) (st : St) (S : Store) : List (Nat × Bool) → Prop
  | [] => True
  | (j, fz) :: l => (match ops[j]? with
    | some o => rq1 P ops fz o st S st
    | none => False) ∧ reck P ops st S l
def andP (l : List (Nat × Bool)) (A B : Prop) : Prop :=
  match l with
  | [] => B
  | _ => A ∧ B
def inlQ (P : Program) (fz : Bool) (o : Oper) (st : St) : Option AV :=
  match o.op with
  | .move x => some (aev st x)
  | .assign x => some (aev st x)
  | .makeInterface t x => match P.underlying t with
    | some (.interface _) => none
    | some _ => some (.iface t (aev st x))
    | none => none
  | .makeFunc fn first cap => some (.func fn (first.toList.map (aev st)) (cap.toList.map (aev st)))
  | .alloc _ => match opN P fz o st with
    | some (.frz x) => some x
    | _ => none
  | _ => none
theorem inlQ_ok {P : Program} {fz : Bool} {o : Oper} {st : St} {S : Store} {v : AV} (h : inlQ P fz o st = some v) : opQ P fz o st S = some v := by
  unfold inlQ at h
  split at h
  · rename_i x ho; simpa [opQ, isNew, ho, opP, opV] using h
  · rename_i x ho; simpa [opQ, isNew, ho, opP, opV] using h
  · rename_i t x ho; simp only [opQ, isNew, ho, opP, opV]; exact h
  · rename_i fn first cap ho; simpa [opQ, isNew, ho, opP, opV] using h
  · rename_i t ho; simp only [opQ, isNew, ho]; exact h
  · cases h
def evP (P : Program) (ops : Array Oper) (K : St → Store → Prop) : Plan → St → Store → Prop
  | .done, st, S => K st S
  | .q i fz p, st, S => match ops[i]? with
    | some o => match gdOf ops o with
      | some none => match inlQ P fz o st with
        | some v => evP P ops K p (st.put o.dst v) S
        | none => bQ (opQ P fz o st S) fun v => evP P ops K p (st.put o.dst v) S
      | some (some (d, want)) => gdQ (st d) want (opQ P fz o st S) fun v => evP P ops K p (st.put o.dst v) S
      | none => False
    | none => False
  | .e i chk p, st, S => match ops[i]? with
    | some o => match gdOf ops o with
      | some none => evW P o st S fun v S' => andP chk (reck P ops (st.put o.dst v) S' chk) (evP P ops K p (st.put o.dst v) S')
      | some (some (d, want)) => gdE (st d) want (evW P o st S) S fun v S' => andP chk (reck P ops (st.put o.dst v) S' chk) (evP P ops K p (st.put o.dst v) S')
      | none => False
    | none => False
  | .fork a b, st, S => evP P ops K a st S ∧ evP P ops K b st S
def prs (o : Oper) : List Nat := (o.after.toList.filter (Region.binds .any)).map (·.on)
def sFree (P : Program) (o : Oper) : Bool :=
  match o.op with
  | .move _ | .assign _ | .pick _ _ _ | .nilCheck _ | .unOp _ _ _ | .makeInterface _ _ | .makeFunc _ _ _ | .fieldAddr _ _ _ | .field _ _ _ | .index _ _ _ | .extract _ _ | .build _ _ => true
  | .alloc _ | .box _ _ | .buildSlice _ _ _ | .makeMap _ _ | .makeSlice _ _ _ => true
  | .binOp op t _ _ _ => match op with
    | .eql | .neq => (eqK P t).isNone
    | _ => true
  | .convert src dst _ => match P.underlying src with
    | some .string => true
    | _ => match cvK P src dst with
      | some (.int _) => true
      | _ => false
  | .call { callee := .builtin .min, .. } => true
  | .call { callee := .builtin .max, .. } => true
  | .call { callee := .builtin .len, argTypes, .. } => match argTypes[0]? with
    | some t => match lnK P t with
      | some .str => true
      | some .slice => true
      | _ => false
    | none => false
  | _ => false
def tmpsOf (x : Operand) : List Nat :=
  match x with
  | .tmp t => [t]
  | _ => []
def readsOf (ops : Array Oper) (o : Oper) : List Nat :=
  o.op.operands.toList.flatMap tmpsOf ++ (match gdOf ops o with | some (some (d, _)) => [d] | _ => [])
def ancU (anc : List Nat) (ps : List Nat) : Nat := ps.foldl (fun s p => s ||| 2 ^ p ||| anc.getD p 0) 0
def noDefer (o : Oper) : Bool :=
  match o.op with
  | .defer _ => false
  | _ => true
def opOk (ops : Array Oper) (n : Nat) (anc : List Nat) (i : Nat) (o : Oper) : Bool :=
  opdsOk n o && noDefer o && (match o.dst with | some d => decide (d < n) | none => true) && (prs o).all (fun p => decide (p < i)) &&
  (anc.getD i 0 ||| ancU anc (prs o) == ancU anc (prs o)) &&
  (match o.guard with | some (j, _) => (anc.getD i 0).testBit j | none => true)
def allI (f : Nat → Oper → Bool) : Nat → List Oper → Bool
  | _, [] => true
  | i, o :: l => f i o && allI f (i + 1) l
def dstsGo : Nat → List Oper → List (Nat × Nat)
  | _, [] => []
  | i, o :: l => match o.dst with
    | some d => (d, i) :: dstsGo (i + 1) l
    | none => dstsGo (i + 1) l
def wrOf (t : Nat) : List (Nat × Nat) → Option Nat
  | [] => none
  | (d, k) :: l => match Nat.beq d t with
    | true => some k
    | false => wrOf t l
def nodupM : Nat → List (Nat × Nat) → Bool
  | _, [] => true
  | m, (d, _) :: l => !m.testBit d && nodupM (m ||| 2 ^ d) l
def warOk (anc : List Nat) (ds : List (Nat × Nat)) (i : Nat) (t : Nat) : Bool :=
  match wrOf t ds with
  | some k => Nat.beq k i || (anc.getD i 0).testBit k || (anc.getD k 0).testBit i
  | none => true
def regOk (ops : Array Oper) (n : Nat) (anc : List Nat) : Bool :=
  nodupM 0 (dstsGo 0 ops.toList) && allI (fun i o => opOk ops n anc i o && (readsOf ops o).all (warOk anc (dstsGo 0 ops.toList) i)) 0 ops.toList
def heads : Plan → List Nat
  | .e i _ _ => [i]
  | .fork a b => heads a ++ heads b
  | _ => []
def sat (ops : Array Oper) (L : Nat) (hs : List Nat) : Bool :=
  (List.range ops.size).all fun j => L.testBit j || hs.contains j || (match ops[j]? with | some o => (prs o).any fun p => !L.testBit p | none => false)
def chkOk (ops : Array Oper) (anc : List Nat) (L : Nat) (j : Nat) : Bool :=
  match ops[j]? with
  | some o => let rs := readsOf ops o; (List.range ops.size).all fun k => !L.testBit k || (anc.getD j 0).testBit k || (match ops[k]? with | some o' => (match o'.dst with | some t => !rs.contains t | none => true) | none => true)
  | none => false
def planOk (P : Program) (ops : Array Oper) (anc : List Nat) : Plan → Bool → Nat → List (Nat × Bool) → Bool
  | .done, inF, L, _ => !inF && (List.range ops.size).all fun i => L.testBit i
  | .q i fz p, inF, L, qs => !inF && !L.testBit i && (match ops[i]? with
    | some o => (prs o).all (fun p => L.testBit p) && planOk P ops anc p false (L ||| 2 ^ i) (if sFree P o then qs else (i, fz) :: qs)
    | none => false)
  | .e i chk p, inF, L, qs => (inF || sat ops L [i]) && !L.testBit i && (match ops[i]? with
    | some o => (prs o).all (fun p => L.testBit p) && qs.all (fun (j, fz) => (anc.getD i 0).testBit j || chk.contains (j, fz)) && chk.all (fun (j, _) => chkOk ops anc (L ||| 2 ^ i) j) && planOk P ops anc p false (L ||| 2 ^ i) qs
    | none => false)
  | .fork a b, inF, L, qs => (inF || sat ops L (heads a ++ heads b)) && planOk P ops anc a true L qs && planOk P ops anc b true L qs
theorem map_aev {st st' : St} {l : List Operand} (h : ∀ x ∈ l, aev st x = aev st' x) : l.map (aev st) = l.map (aev st') := List.map_congr_left h
theorem omap_aev {st st' : St} {x : Option Operand} (h : ∀ y, x = some y → aev st y = aev st' y) : x.map (aev st) = x.map (aev st') := by
  cases x with
  | none => rfl
  | some y => simp [h y rfl]
theorem placed_congr {P : Program} {t : TypeId} {st st' : St} : ∀ {l : List (Nat × Operand)}, (∀ p ∈ l, aev st p.2 = aev st' p.2) → placed P t st l = placed P t st' l
  | [], _ => rfl
  | (i, x) :: l, h => by
    simp only [placed]
    rw [placed_congr (l := l) (fun p hp => h p (by simp [hp])), h (i, x) (by simp)]
theorem opV_congr {P : Program} {o : Oper} {st st' : St} {S : Store} (h : ∀ x ∈ o.op.operands, aev st x = aev st' x) : opV P o st S = opV P o st' S := by
  unfold opV
  split
  case h_1 x ho => rw [h x (by simp [ho, Op.operands])]
  case h_2 x ho => rw [h x (by simp [ho, Op.operands])]
  case h_3 c a b ho => rw [h c (by simp [ho, Op.operands]), h a (by simp [ho, Op.operands]), h b (by simp [ho, Op.operands])]
  case h_4 t a ho => rw [h a (by simp [ho, Op.operands])]
  case h_5 x ho => rw [h x (by simp [ho, Op.operands])]
  case h_6 op t x y yt ho => rw [h x (by simp [ho, Op.operands]), h y (by simp [ho, Op.operands])]
  case h_7 op t x ho => rw [h x (by simp [ho, Op.operands])]
  case h_8 src dst x ho => rw [h x (by simp [ho, Op.operands])]
  case h_9 t x ho => rw [h x (by simp [ho, Op.operands])]
  case h_10 fn first cap ho =>
    have e1 := map_aev (l := first.toList) (st := st) (st' := st') (fun x hx => h x (by simp [ho, Op.operands]; exact .inl (by simpa using hx)))
    have e2 := map_aev (l := cap.toList) (st := st) (st' := st') (fun x hx => h x (by simp [ho, Op.operands]; exact .inr (by simpa using hx)))
    rw [e1, e2]
  case h_11 t x lo hi mx ho =>
    have e0 := h x (by simp [ho, Op.operands])
    have e1 := omap_aev (x := lo) (st := st) (st' := st') (fun y hy => h y (by subst hy; simp [ho, Op.operands]))
    have e2 := omap_aev (x := hi) (st := st) (st' := st') (fun y hy => h y (by subst hy; simp [ho, Op.operands]))
    have e3 := omap_aev (x := mx) (st := st) (st' := st') (fun y hy => h y (by subst hy; simp [ho, Op.operands]))
    simp only [e0, e1, e2, e3]
  case h_12 s x f ho => simp only [h x (by simp [ho, Op.operands])]
  case h_13 s x f ho => simp only [h x (by simp [ho, Op.operands])]
  case h_14 t x ix ho => simp only [h x (by simp [ho, Op.operands]), h ix (by simp [ho, Op.operands])]
  case h_15 t x ix ho => simp only [h x (by simp [ho, Op.operands]), h ix (by simp [ho, Op.operands])]
  case h_16 t i ho => rw [h t (by simp [ho, Op.operands])]
  case h_17 args ats ho =>
    split
    · rename_i t x _ hx
      have : x ∈ args := Array.mem_of_getElem? hx
      rw [h x (by simp [ho, Op.operands, Call.operands, this])]
    · rfl
  case h_18 args ats ho =>
    split
    · rename_i x y hx
      have e : args = #[x, y] := by cases args; simp_all
      subst e
      rw [h x (by simp [ho, Op.operands, Call.operands]), h y (by simp [ho, Op.operands, Call.operands])]
    · rfl
  case h_19 args ats ho =>
    split
    · rename_i x y hx
      have e : args = #[x, y] := by cases args; simp_all
      subst e
      rw [h x (by simp [ho, Op.operands, Call.operands]), h y (by simp [ho, Op.operands, Call.operands])]
    · rfl
  case h_20 => rfl
theorem opN_congr {P : Program} {fz : Bool} {o : Oper} {st st' : St} (h : ∀ x ∈ o.op.operands, aev st x = aev st' x) : opN P fz o st = opN P fz o st' := by
  unfold opN
  split
  case h_1 => rfl
  case h_2 t x ho => simp only [h x (by simp [ho, Op.operands])]
  case h_3 t len parts ho =>
    have e : ∀ p ∈ parts.toList, aev st p.2 = aev st' p.2 := fun p hp => h p.2 (by simp only [ho, Op.operands, List.mem_toArray, List.mem_map]; exact ⟨p, hp, rfl⟩)
    have e1 : (parts.toList.map fun p => (p.1, aev st p.2)) = parts.toList.map fun p => (p.1, aev st' p.2) := List.map_congr_left fun p hp => by rw [e p hp]
    have e2 : (parts.toList.map fun p => cellsOf (aev st p.2)) = parts.toList.map fun p => cellsOf (aev st' p.2) := List.map_congr_left fun p hp => by rw [e p hp]
    simp only [e1, e2]
  case h_4 => rfl
  case h_5 t l c ho => simp only [h l (by simp [ho, Op.operands]), h c (by simp [ho, Op.operands])]
  case h_6 src dst x ho => simp only [h x (by simp [ho, Op.operands])]
  case h_7 => rfl
theorem opP_congr {P : Program} {o : Oper} {st st' : St} {S : Store} (h : ∀ x ∈ o.op.operands, aev st x = aev st' x) : opP P o st S = opP P o st' S := by
  unfold opP
  split
  case h_1 t parts ho =>
    unfold opB
    have e : ∀ p ∈ parts.toList, aev st p.2 = aev st' p.2 := fun p hp => h p.2 (by simp only [ho, Op.operands, List.mem_toArray, List.mem_map]; exact ⟨p, hp, rfl⟩)
    rw [placed_congr e]
  case h_2 t x k ok ho => simp only [h x (by simp [ho, Op.operands]), h k (by simp [ho, Op.operands])]
  case h_3 => exact opV_congr h
theorem opQ_congr {P : Program} {fz : Bool} {o : Oper} {st st' : St} {S : Store} (h : ∀ x ∈ o.op.operands, aev st x = aev st' x) : opQ P fz o st S = opQ P fz o st' S := by
  unfold opQ
  rw [opN_congr h, opP_congr h]
theorem evW_congr {P : Program} {o : Oper} {st st' : St} {S : Store} {K : AV → Store → Prop} (h : ∀ x ∈ o.op.operands, aev st x = aev st' x) : evW P o st S K = evW P o st' S K := by
  unfold evW
  rw [opN_congr h]
  split
  · rfl
  unfold effW
  split
  case h_1 t a x ho => simp only [h a (by simp [ho, Op.operands]), h x (by simp [ho, Op.operands])]
  case h_2 t mp k x ho => simp only [h mp (by simp [ho, Op.operands]), h k (by simp [ho, Op.operands]), h x (by simp [ho, Op.operands])]
  case h_3 f args ats ho =>
    rw [h f (by simp [ho, Op.operands, Call.operands]), map_aev (l := args.toList) (st := st) (st' := st') (fun x hx => h x (by simp [ho, Op.operands, Call.operands]; exact .inr (by simpa using hx)))]
  case h_4 r name args ats ho =>
    rw [h r (by simp [ho, Op.operands, Call.operands]), map_aev (l := args.toList) (st := st) (st' := st') (fun x hx => h x (by simp [ho, Op.operands, Call.operands]; exact .inr (by simpa using hx)))]
  case h_5 args ats ho =>
    split
    · rename_i t tx b x _ hx
      have e : args = #[b, x] := by cases args; simp_all
      subst e
      rw [h b (by simp [ho, Op.operands, Call.operands]), h x (by simp [ho, Op.operands, Call.operands])]
    · rfl
  case h_6 args ats ho =>
    split
    · rename_i t b x _ hx
      have e : args = #[b, x] := by cases args; simp_all
      subst e
      simp only [h b (by simp [ho, Op.operands, Call.operands]), h x (by simp [ho, Op.operands, Call.operands])]
    · rfl
  case h_7 args ats ho =>
    split
    · rename_i t x _ hx
      have e : args = #[x] := by cases args; simp_all
      subst e
      simp only [h x (by simp [ho, Op.operands, Call.operands])]
    · rfl
  case h_8 args ats ho =>
    split
    · rename_i t x _ hx
      have e : args = #[x] := by cases args; simp_all
      subst e
      simp only [h x (by simp [ho, Op.operands, Call.operands])]
    · rfl
  case h_9 args ats ho =>
    split
    · rename_i t d x _ hx
      have e : args = #[d, x] := by cases args; simp_all
      subst e
      simp only [h d (by simp [ho, Op.operands, Call.operands]), h x (by simp [ho, Op.operands, Call.operands])]
    · rfl
  case h_10 t x ho => simp only [h x (by simp [ho, Op.operands])]
  case h_11 x ho => simp only [h x (by simp [ho, Op.operands])]
  case h_12 x ho => simp only [h x (by simp [ho, Op.operands])]
  case h_13 => rfl
theorem aln_free {c : LnC} (hc : c ≠ .map) (x : AV) (S S' : Store) : aln c x S = aln c x S' := by
  unfold aln
  split <;> first | rfl | exact absurd rfl hc
theorem opV_free {P : Program} {o : Oper} {st : St} {S S' : Store} (h : sFree P o = true) : opV P o st S = opV P o st S' := by
  unfold sFree at h
  unfold opV
  split
  case h_1 | h_2 | h_3 | h_5 | h_7 | h_9 | h_10 | h_12 | h_13 | h_15 | h_16 | h_18 | h_19 | h_20 => rfl
  case h_4 t a ho => simp [ho] at h
  case h_6 op t x y yt ho =>
    simp only [ho] at h
    split <;> simp_all
  case h_8 src dst x ho =>
    simp only [ho] at h
    split
    · rename_i c hc
      cases c with
      | int k => rfl
      | bytes =>
        simp only [hc] at h
        split at h
        · rename_i hs
          unfold cvK at hc
          rw [hs] at hc
          split at hc <;> simp_all
        · cases h
    · rfl
  case h_11 t x lo hi mx ho => simp [ho] at h
  case h_14 t x ix ho => simp [ho] at h
  case h_17 args ats ho =>
    simp only [ho] at h
    split
    · rename_i t x ht hx
      rw [ht] at h
      dsimp only at h
      split
      · rename_i c hc
        rw [hc] at h
        cases c with
        | str => exact aln_free (by simp) _ _ _
        | slice => exact aln_free (by simp) _ _ _
        | map => simp at h
      · rfl
    · rfl
theorem opQ_free {P : Program} {fz : Bool} {o : Oper} {st : St} {S S' : Store} (h : sFree P o = true) : opQ P fz o st S = opQ P fz o st S' := by
  unfold opQ
  split
  · rfl
  · unfold opP
    split
    · rfl
    · rename_i ho; simp [sFree, ho] at h
    · exact opV_free h
end Go.Du
namespace Go.Du
open Go
theorem testBit_or_pow {L i j : Nat} : (L ||| 2 ^ i).testBit j = (L.testBit j || decide (i = j)) := by
  simp [Nat.testBit_or, Nat.testBit_two_pow]
theorem ancU_spec {anc : List Nat} {j : Nat} : ∀ {ps : List Nat} {s : Nat}, (ps.foldl (fun s p => s ||| 2 ^ p ||| anc.getD p 0) s).testBit j = true → s.testBit j = true ∨ ∃ p ∈ ps, j = p ∨ (anc.getD p 0).testBit j = true
  | [], s, h => .inl h
  | p :: ps, s, h => by
    rcases ancU_spec (ps := ps) h with h | ⟨q, hq, h⟩
    · rw [Nat.testBit_or, testBit_or_pow] at h
      simp only [Bool.or_eq_true, decide_eq_true_eq] at h
      rcases h with (h | h) | h
      · exact .inl h
      · exact .inr ⟨p, by simp, .inl h.symm⟩
      · exact .inr ⟨p, by simp, .inr h⟩
    · exact .inr ⟨q, by simp [hq], h⟩
structure RegS (ops : Array Oper) (n : Nat) : Prop where
  opds : ∀ {i : Nat} {o : Oper}, ops[i]? = some o → opdsOk n o = true
  nod : ∀ {i : Nat} {o : Oper}, ops[i]? = some o → ∀ c, o.op ≠ .defer c
  dst : ∀ {i : Nat} {o : Oper} {d : Nat}, ops[i]? = some o → o.dst = some d → d < n
structure RegF (ops : Array Oper) (n : Nat) (anc : List Nat) : Prop extends RegS ops n where
  lt : ∀ {i : Nat} {o : Oper} {p : Nat}, ops[i]? = some o → p ∈ prs o → p < i
  ancs : ∀ {i : Nat} {o : Oper} {j : Nat}, ops[i]? = some o → (anc.getD i 0).testBit j = true → ∃ p ∈ prs o, j = p ∨ (anc.getD p 0).testBit j = true
  gd : ∀ {i : Nat} {o : Oper} {j : Nat} {w : Bool}, ops[i]? = some o → o.guard = some (j, w) → (anc.getD i 0).testBit j = true
  uniq : ∀ {i k : Nat} {o o' : Oper} {t : Nat}, ops[i]? = some o → ops[k]? = some o' → o.dst = some t → o'.dst = some t → i = k
  war : ∀ {i k : Nat} {o o' : Oper} {t : Nat}, ops[i]? = some o → ops[k]? = some o' → k ≠ i → o'.dst = some t → t ∈ readsOf ops o → (anc.getD i 0).testBit k = true ∨ (anc.getD k 0).testBit i = true
theorem allI_spec {f : Nat → Oper → Bool} : ∀ {l : List Oper} {s : Nat}, allI f s l = true → ∀ i o, l[i]? = some o → f (s + i) o = true
  | [], _, _, _, _, h => by simp at h
  | o :: l, s, h, i, o', hi => by
    simp only [allI, Bool.and_eq_true] at h
    cases i with
    | zero => simp only [List.getElem?_cons_zero, Option.some.injEq] at hi; subst hi; exact h.1
    | succ i =>
      have := allI_spec h.2 i o' (by simpa using hi)
      rwa [show s + (i + 1) = s + 1 + i by omega]
theorem dstsGo_mem : ∀ {l : List Oper} {s k : Nat} {o : Oper} {t : Nat}, l[k]? = some o → o.dst = some t → (t, s + k) ∈ dstsGo s l
  | [], _, _, _, _, h, _ => by simp at h
  | o :: l, s, k, o', t, h, hd => by
    cases k with
    | zero =>
      simp only [List.getElem?_cons_zero, Option.some.injEq] at h; subst h
      simp only [dstsGo, hd]; simp
    | succ k =>
      have := dstsGo_mem (s := s + 1) (l := l) (k := k) (by simpa using h) hd
      rw [show s + (k + 1) = s + 1 + k by omega]
      simp only [dstsGo]
      split
      · exact List.mem_cons_of_mem _ this
      · exact this
theorem nodupM_spec : ∀ {l : List (Nat × Nat)} {m : Nat}, nodupM m l = true → (∀ t k, (t, k) ∈ l → m.testBit t = false) ∧ ∀ t k k', (t, k) ∈ l → (t, k') ∈ l → k = k' ∧ wrOf t l = some k
  | [], _, _ => ⟨fun _ _ h => absurd h List.not_mem_nil, fun _ _ _ h => absurd h List.not_mem_nil⟩
  | (d, i) :: l, m, h => by
    simp only [nodupM, Bool.and_eq_true, Bool.not_eq_true'] at h
    obtain ⟨h1, h2⟩ := nodupM_spec h.2
    have hne : ∀ t k, (t, k) ∈ l → t ≠ d := fun t k hm e => by
      have := h1 t k hm
      rw [e, testBit_or_pow] at this
      simp at this
    refine ⟨fun t k hm => ?_, fun t k k' hm hm' => ?_⟩
    · rcases List.mem_cons.1 hm with e | hm
      · cases e; exact h.1
      · have := h1 t k hm
        rw [testBit_or_pow] at this
        simp only [Bool.or_eq_false_iff] at this
        exact this.1
    · rcases List.mem_cons.1 hm with e | hm
      · cases e
        rcases List.mem_cons.1 hm' with e | hm'
        · cases e; exact ⟨rfl, by simp [wrOf]⟩
        · exact absurd rfl (hne _ _ hm')
      · rcases List.mem_cons.1 hm' with e | hm'
        · cases e; exact absurd rfl (hne _ _ hm)
        · obtain ⟨a, b⟩ := h2 t k k' hm hm'
          refine ⟨a, ?_⟩
          have : Nat.beq d t = false := by
            have := hne t k hm
            cases e : Nat.beq d t with
            | false => rfl
            | true => exact absurd (Nat.eq_of_beq_eq_true e).symm this
          simp [wrOf, this, b]
theorem regOk_spec {ops : Array Oper} {n : Nat} {anc : List Nat} (h : regOk ops n anc = true) : RegF ops n anc := by
  simp only [regOk, Bool.and_eq_true] at h
  obtain ⟨hnd, hall⟩ := h
  have h0 : ∀ i o, ops[i]? = some o → opOk ops n anc i o = true ∧ ∀ t ∈ readsOf ops o, warOk anc (dstsGo 0 ops.toList) i t = true := by
    intro i o ho
    have := allI_spec hall i o (by simpa using ho)
    simp only [Nat.zero_add, Bool.and_eq_true] at this
    exact ⟨this.1, List.all_eq_true.1 this.2⟩
  have hmem : ∀ {k o t}, ops[k]? = some o → o.dst = some t → (t, k) ∈ dstsGo 0 ops.toList := fun {k o t} ho hd => by
    have := dstsGo_mem (s := 0) (l := ops.toList) (k := k) (by simpa using ho) hd
    simpa using this
  have h1 : ∀ i o, ops[i]? = some o → opdsOk n o = true ∧ noDefer o = true ∧ (match o.dst with | some d => decide (d < n) | none => true) = true ∧ (prs o).all (fun p => decide (p < i)) = true ∧
      (anc.getD i 0 ||| ancU anc (prs o) == ancU anc (prs o)) = true ∧ (match o.guard with | some (j, _) => (anc.getD i 0).testBit j | none => true) = true := by
    intro i o ho
    have := (h0 i o ho).1
    simp only [opOk, Bool.and_eq_true] at this
    obtain ⟨⟨⟨⟨⟨a, b⟩, c⟩, d⟩, e⟩, f⟩ := this
    exact ⟨a, b, c, d, e, f⟩
  refine ⟨⟨fun ho => (h1 _ _ ho).1, fun {i o} ho c hc => ?_, fun {i o d} ho hd => ?_⟩, fun {i o p} ho hp => ?_, fun {i o j} ho hj => ?_, fun {i o j w} ho hg => ?_, fun {i k o o' t} ho ho' hd hd' => ?_, fun {i k o o' t} ho ho' hne hd ht => ?_⟩
  · have := (h1 _ _ ho).2.1; simp [noDefer, hc] at this
  · have := (h1 _ _ ho).2.2.1; rw [hd] at this; simpa using this
  · have := List.all_eq_true.1 (h1 _ _ ho).2.2.2.1 p hp; simpa using this
  · have hb := beq_iff_eq.1 (h1 _ _ ho).2.2.2.2.1
    have : (ancU anc (prs o)).testBit j = true := by rw [← hb, Nat.testBit_or, hj]; rfl
    rcases ancU_spec this with h | h
    · simp at h
    · exact h
  · have := (h1 _ _ ho).2.2.2.2.2; rw [hg] at this; exact this
  · exact ((nodupM_spec hnd).2 t i k (hmem ho hd) (hmem ho' hd')).1
  · have hw := ((nodupM_spec hnd).2 t k k (hmem ho' hd) (hmem ho' hd)).2
    have := (h0 i o ho).2 t ht
    simp only [warOk, hw, Bool.or_eq_true] at this
    rcases this with (h | h) | h
    · exact absurd (Nat.eq_of_beq_eq_true h) hne
    · exact .inl h
    · exact .inr h
def Cl (ops : Array Oper) (X : Nat → Prop) : Prop := ∀ i o, ops[i]? = some o → X i → ∀ p ∈ prs o, X p
section
variable {P : Program} {ops : Array Oper} {n : Nat} {anc : List Nat}
theorem anc_sub (hF : RegF ops n anc) {X : Nat → Prop} (hX : Cl ops X) : ∀ (i : Nat) (o : Oper), ops[i]? = some o → (∀ p ∈ prs o, X p) → ∀ j, (anc.getD i 0).testBit j = true → X j := by
  intro i
  induction i using Nat.strongRecOn with
  | ind i ih =>
    intro o ho hp j hj
    obtain ⟨p, hpm, h | h⟩ := hF.ancs ho hj
    · exact h ▸ hp p hpm
    · have hlt := hF.lt ho hpm
      have hps : p < ops.size := by have := (Array.getElem?_eq_some_iff.1 ho).1; omega
      exact ih p hlt ops[p] (Array.getElem?_eq_getElem hps) (fun q hq => hX p _ (Array.getElem?_eq_getElem hps) (hp p hpm) q hq) j h
theorem anc_lt (hF : RegF ops n anc) {i j : Nat} {o : Oper} (ho : ops[i]? = some o) (hj : (anc.getD i 0).testBit j = true) : j < i :=
  anc_sub hF (X := fun k => k < i) (fun _ _ ho' hlt _ hp => Nat.lt_trans (hF.lt ho' hp) hlt) i o ho (fun _ hp => hF.lt ho hp) j hj
open Classical in
noncomputable def msk (ops : Array Oper) (st0 st : St) (X : Nat → Prop) : St := fun t => if ∃ k o, ops[k]? = some o ∧ o.dst = some t ∧ ¬ X k then st0 t else st t
noncomputable def vw (ops : Array Oper) (anc : List Nat) (st0 : St) (i : Nat) (st : St) : St := msk ops st0 st fun k => (anc.getD i 0).testBit k = true
def Agree (ops : Array Oper) (o : Oper) (st st' : St) : Prop := ∀ t ∈ readsOf ops o, st t = st' t
theorem Agree.opd {o : Oper} {st st' : St} (h : Agree ops o st st') : ∀ x ∈ o.op.operands, aev st x = aev st' x := by
  intro x hx
  cases x with
  | tmp t => exact h t (List.mem_append_left _ (List.mem_flatMap.2 ⟨.tmp t, by simpa using hx, by simp [tmpsOf]⟩))
  | _ => rfl
theorem Agree.gd {o : Oper} {st st' : St} (h : Agree ops o st st') {A B : Prop} : gdK (gdOf ops o) st A B = gdK (gdOf ops o) st' A B := by
  unfold gdK
  cases hg : gdOf ops o with
  | none => rfl
  | some g => cases g with
    | none => rfl
    | some g =>
      obtain ⟨d, w⟩ := g
      have : d ∈ readsOf ops o := List.mem_append_right _ (by rw [hg]; simp)
      simp only [h d this]
theorem Agree.rq {o : Oper} {st st' : St} (h : Agree ops o st st') {fz : Bool} {S : Store} {x : St} : rq1 P ops fz o st S x = rq1 P ops fz o st' S x := by
  unfold rq1
  rw [h.gd, opQ_congr h.opd]
theorem Agree.symm {o : Oper} {st st' : St} (h : Agree ops o st st') : Agree ops o st' st := fun t ht => (h t ht).symm
theorem Agree.trans {o : Oper} {a b c : St} (h : Agree ops o a b) (k : Agree ops o b c) : Agree ops o a c := fun t ht => (h t ht).trans (k t ht)
theorem agree_abs (hF : RegF ops n anc) {X : Nat → Prop} (hX : Cl ops X) {st0 st : St} (un : ∀ t, (∀ k o, ops[k]? = some o → o.dst = some t → ¬ X k) → st t = st0 t) {i : Nat} {o : Oper} (ho : ops[i]? = some o) (hi : ¬ X i) : Agree ops o st (vw ops anc st0 i st) := by
  intro t ht
  unfold vw msk
  split
  · rename_i h
    obtain ⟨k, o', hk, hd, hn⟩ := h
    refine un t fun k' o'' hk' hd' hX' => ?_
    have := hF.uniq hk hk' hd hd'
    subst this
    by_cases e : k = i
    · exact hi (e ▸ hX')
    · rcases hF.war ho hk e hd ht with h | h
      · exact hn h
      · exact hi (anc_sub hF hX k _ hk (hX _ _ hk hX') i h)
  · rfl
theorem agree_act (hF : RegF ops n anc) {X : Nat → Prop} (hX : Cl ops X) {st0 st : St} {i : Nat} {o : Oper} (ho : ops[i]? = some o) (hi : ¬ X i) (hp : ∀ p ∈ prs o, X p) : Agree ops o (msk ops st0 st X) (vw ops anc st0 i st) := by
  intro t ht
  unfold vw msk
  have : (∃ k o, ops[k]? = some o ∧ o.dst = some t ∧ ¬ X k) ↔ ∃ k o, ops[k]? = some o ∧ o.dst = some t ∧ ¬ (anc.getD i 0).testBit k = true := by
    constructor
    · rintro ⟨k, o', hk, hd, hn⟩
      exact ⟨k, o', hk, hd, fun h => hn (anc_sub hF hX i o ho hp k h)⟩
    · rintro ⟨k, o', hk, hd, hn⟩
      refine ⟨k, o', hk, hd, fun h => ?_⟩
      by_cases e : k = i
      · exact hi (e ▸ h)
      · rcases hF.war ho hk e hd ht with h' | h'
        · exact hn h'
        · exact hi (anc_sub hF hX k _ hk (hX _ _ hk h) i h')
  by_cases h : ∃ k o, ops[k]? = some o ∧ o.dst = some t ∧ ¬ X k
  · rw [if_pos h, if_pos (this.1 h)]
  · rw [if_neg h, if_neg (fun h' => h (this.2 h'))]
theorem msk_put {st0 st : St} {i : Nat} {o : Oper} (ho : ops[i]? = some o) {X : Nat → Prop} (hi : ¬ X i) (v : AV) : msk ops st0 (st.put o.dst v) X = msk ops st0 st X := by
  funext t
  unfold msk
  split
  · rfl
  · rename_i h
    cases hd : o.dst with
    | none => rfl
    | some d =>
      simp only [St.put]
      by_cases e : t = d
      · exact absurd ⟨i, o, ho, e ▸ hd, hi⟩ h
      · rw [if_neg e]
theorem vw_put {st0 st : St} {i j : Nat} {o : Oper} (ho : ops[i]? = some o) (hi : ¬ (anc.getD j 0).testBit i = true) (v : AV) : vw ops anc st0 j (st.put o.dst v) = vw ops anc st0 j st := msk_put ho hi v
theorem put_dst (hF : RegF ops n anc) {i j : Nat} {o o' : Oper} (ho : ops[i]? = some o) (ho' : ops[j]? = some o') (hne : j ≠ i) (st : St) (v : AV) {d : Nat} (hd : o'.dst = some d) : (st.put o.dst v) d = st d := by
  cases hd' : o.dst with
  | none => rfl
  | some d' =>
    simp only [St.put]
    by_cases e : d = d'
    · exact absurd (hF.uniq ho' ho hd (e ▸ hd')) hne
    · rw [if_neg e]
theorem rq1_x {fz : Bool} {o : Oper} {st : St} {S : Store} {x x' : St} (h : ∀ d, o.dst = some d → x d = x' d) : rq1 P ops fz o st S x = rq1 P ops fz o st S x' := by
  unfold rq1
  cases hd : o.dst with
  | none => simp
  | some d => simp only [h d hd]
theorem rq1_free {fz : Bool} {o : Oper} {st : St} {S S' : Store} {x : St} (h : sFree P o = true) : rq1 P ops fz o st S x = rq1 P ops fz o st S' x := by
  unfold rq1; rw [opQ_free h]
theorem msk_add (hF : RegF ops n anc) {X X' : Nat → Prop} {st0 st st' : St} {i : Nat} {o : Oper} (ho : ops[i]? = some o) (hX' : ∀ k, X' k ↔ X k ∨ k = i) {v : AV} (hv : ∀ d, o.dst = some d → st' d = v) (hs : ∀ t, (∀ d, o.dst = some d → t ≠ d) → st' t = st t) :
    msk ops st0 st' X' = (msk ops st0 st X).put o.dst v := by
  funext t
  by_cases ht : o.dst = some t
  · rw [ht]
    simp only [St.put, if_true]
    unfold msk
    rw [if_neg, hv t ht]
    rintro ⟨k, o', hk, hd, hn⟩
    exact hn ((hX' k).2 (.inr (hF.uniq hk ho hd ht)))
  · have hne : ∀ d, o.dst = some d → t ≠ d := fun d hd e => ht (e ▸ hd)
    have e1 : ((msk ops st0 st X).put o.dst v) t = msk ops st0 st X t := by
      cases hd : o.dst with
      | none => rfl
      | some d => simp only [St.put]; rw [if_neg (hne d hd)]
    rw [e1]
    unfold msk
    have : (∃ k o, ops[k]? = some o ∧ o.dst = some t ∧ ¬ X' k) ↔ ∃ k o, ops[k]? = some o ∧ o.dst = some t ∧ ¬ X k := by
      constructor
      · rintro ⟨k, o', hk, hd, hn⟩; exact ⟨k, o', hk, hd, fun h => hn ((hX' k).2 (.inl h))⟩
      · rintro ⟨k, o', hk, hd, hn⟩
        refine ⟨k, o', hk, hd, fun h => ?_⟩
        rcases (hX' k).1 h with h | h
        · exact hn h
        · subst h; rw [ho] at hk; cases hk; exact ht hd
    by_cases h : ∃ k o, ops[k]? = some o ∧ o.dst = some t ∧ ¬ X k
    · rw [if_pos h, if_pos (this.2 h)]
    · rw [if_neg h, if_neg (fun h' => h (this.1 h')), hs t hne]
structure Inv (P : Program) (ops : Array Oper) (anc : List Nat) (st0 : St) (La L : Nat → Prop) (qs : List (Nat × Bool)) (st : St) (S : Store) : Prop where
  sub : ∀ i, La i → L i
  cl : Cl ops L
  cla : Cl ops La
  un : ∀ t, (∀ k o, ops[k]? = some o → o.dst = some t → ¬ L k) → st t = st0 t
  pend : ∀ j o, ops[j]? = some o → L j → ¬ La j → ∃ fz, (sFree P o = true ∨ (j, fz) ∈ qs) ∧ rq1 P ops fz o (vw ops anc st0 j st) S st
theorem Cl.add {X : Nat → Prop} (h : Cl ops X) {i : Nat} {o : Oper} (ho : ops[i]? = some o) (hp : ∀ p ∈ prs o, X p) {X' : Nat → Prop} (hX' : ∀ k, X' k ↔ X k ∨ k = i) : Cl ops X' := by
  intro k o' hk hx p hp'
  rcases (hX' k).1 hx with hx | rfl
  · exact (hX' p).2 (.inl (h k o' hk hx p hp'))
  · rw [ho] at hk; cases hk; exact (hX' p).2 (.inl (hp p hp'))
theorem Inv.step (hF : RegF ops n anc) {st0 : St} {La La' L L' : Nat → Prop} {qs qs' : List (Nat × Bool)} {st : St} {S S' : Store} (h : Inv P ops anc st0 La L qs st S) {i : Nat} {o : Oper} (ho : ops[i]? = some o) (hi : ¬ L i) (hp : ∀ p ∈ prs o, L p)
    (hL' : ∀ k, L' k ↔ L k ∨ k = i) (v : AV) (hsub : ∀ k, La' k → L' k) (hcla : Cl ops La') (hmono : ∀ k, La k → La' k) (hq : ∀ x ∈ qs, x ∈ qs')
    (hother : ∀ j o' fz, ops[j]? = some o' → L j → ¬ La' j → j ≠ i → (sFree P o' = true ∨ (j, fz) ∈ qs) → rq1 P ops fz o' (vw ops anc st0 j st) S st → rq1 P ops fz o' (vw ops anc st0 j (st.put o.dst v)) S' (st.put o.dst v))
    (hnew : ¬ La' i → ∃ fz, (sFree P o = true ∨ (i, fz) ∈ qs') ∧ rq1 P ops fz o (vw ops anc st0 i (st.put o.dst v)) S' (st.put o.dst v)) : Inv P ops anc st0 La' L' qs' (st.put o.dst v) S' where
  sub := hsub
  cl := h.cl.add ho hp hL'
  cla := hcla
  un := by
    intro t ht
    have h1 : ∀ d, o.dst = some d → t ≠ d := fun d hd e => ht i o ho (e ▸ hd) ((hL' i).2 (.inr rfl))
    have h2 := h.un t fun k o' hk hd hl => ht k o' hk hd ((hL' k).2 (.inl hl))
    rw [← h2]
    cases hd : o.dst with
    | none => rfl
    | some d => simp only [St.put]; rw [if_neg (h1 d hd)]
  pend := by
    intro j o' hj hl hla
    rcases (hL' j).1 hl with hlj | rfl
    · have hne : j ≠ i := fun e => hi (e ▸ hlj)
      obtain ⟨fz, h1, h2⟩ := h.pend j o' hj hlj fun hx => hla (hmono j hx)
      exact ⟨fz, h1.imp_right (hq _), hother j o' fz hj hlj hla hne h1 h2⟩
    · rw [ho] at hj; cases hj
      exact hnew hla
theorem pend_keep (hF : RegF ops n anc) {st0 : St} {La L : Nat → Prop} {qs : List (Nat × Bool)} {st : St} {S : Store} (h : Inv P ops anc st0 La L qs st S) {i j : Nat} {o o' : Oper} (ho : ops[i]? = some o) (hi : ¬ L i) (v : AV) {fz : Bool}
    (hj : ops[j]? = some o') (hlj : L j) (hne : j ≠ i) (hr : rq1 P ops fz o' (vw ops anc st0 j st) S st) : rq1 P ops fz o' (vw ops anc st0 j (st.put o.dst v)) S (st.put o.dst v) := by
  have hna : ¬ (anc.getD j 0).testBit i = true := fun hx => hi (anc_sub hF h.cl j o' hj (h.cl j o' hj hlj) i hx)
  rw [vw_put ho hna, rq1_x (x' := st) (fun d hd => put_dst hF ho hj hne st v hd)]
  exact hr
def isQ : Plan → Bool
  | .q _ _ _ => true
  | _ => false
theorem evQ_inv {K : St → Store → Prop} {i : Nat} {fz : Bool} {p : Plan} {st : St} {S : Store} {o : Oper} (ho : ops[i]? = some o) (h : evP P ops K (.q i fz p) st S) :
    ∃ v, evP P ops K p (st.put o.dst v) S ∧ rq1 P ops fz o st S (st.put o.dst v) := by
  have pd : ∀ (v : AV) (d : Nat), o.dst = some d → (st.put o.dst v) d = v := fun v d hd => by rw [hd]; simp [St.put]
  have fin : ∀ v, opQ P fz o st S = some v → (match o.dst with | some d => opQ P fz o st S = some ((st.put o.dst v) d) | none => ∃ v, opQ P fz o st S = some v) := by
    intro v hv
    cases hd : o.dst with
    | none => exact ⟨v, hv⟩
    | some d => have := pd v d hd; rw [hd] at this; simp only [this]; exact hv
  simp only [evP, ho] at h
  unfold rq1
  cases hg : gdOf ops o with
  | none => rw [hg] at h; exact h.elim
  | some g =>
    rw [hg] at h
    cases g with
    | none =>
      dsimp only at h
      split at h
      · rename_i v hv
        exact ⟨v, h, fin v (inlQ_ok hv)⟩
      simp only [bQ] at h
      split at h
      · rename_i v hv
        exact ⟨v, h, fin v hv⟩
      · exact h.elim
    | some g =>
      obtain ⟨d, want⟩ := g
      simp only [gdQ, gdW] at h
      simp only [gdK, gdW]
      split at h
      · rename_i b hb
        split at h
        · rename_i hbw
          simp only [bQ] at h
          split at h
          · rename_i v hv
            refine ⟨v, h, ?_⟩
            rw [if_pos hbw]; exact fin v hv
          · exact h.elim
        · rename_i hbw
          refine ⟨undefA, h, ?_⟩
          rw [if_neg hbw]
          cases hd : o.dst with
          | none => trivial
          | some d => have := pd undefA d hd; rw [hd] at this; exact this
      · refine ⟨undefA, h, ?_⟩
        cases hd : o.dst with
        | none => trivial
        | some d => have := pd undefA d hd; rw [hd] at this; exact this
      · exact h.elim
theorem advance (hF : RegF ops n anc) {K : St → Store → Prop} {st0 : St} {La : Nat → Prop} {S : Store} : ∀ (p : Plan) (L : Nat) (qs : List (Nat × Bool)) (st : St), planOk P ops anc p false L qs = true → evP P ops K p st S → Inv P ops anc st0 La (fun i => L.testBit i = true) qs st S →
    ∃ p' L' qs' st', planOk P ops anc p' false L' qs' = true ∧ evP P ops K p' st' S ∧ Inv P ops anc st0 La (fun i => L'.testBit i = true) qs' st' S ∧ isQ p' = false ∧ msk ops st0 st' La = msk ops st0 st La
  | .done, L, qs, st, h1, h2, h3 => ⟨.done, L, qs, st, h1, h2, h3, rfl, rfl⟩
  | .e i c p, L, qs, st, h1, h2, h3 => ⟨.e i c p, L, qs, st, h1, h2, h3, rfl, rfl⟩
  | .fork a b, L, qs, st, h1, h2, h3 => ⟨.fork a b, L, qs, st, h1, h2, h3, rfl, rfl⟩
  | .q i fz p, L, qs, st, h1, h2, h3 => by
    simp only [planOk, Bool.and_eq_true] at h1
    obtain ⟨⟨_, hnl⟩, h1⟩ := h1
    cases ho : ops[i]? with
    | none => rw [ho] at h1; cases h1
    | some o =>
      rw [ho] at h1
      simp only [Bool.and_eq_true] at h1
      obtain ⟨hpr, h1⟩ := h1
      obtain ⟨v, hv, hrq⟩ := evQ_inv ho h2
      have hi : ¬ L.testBit i = true := by simpa using hnl
      have hp : ∀ p ∈ prs o, L.testBit p = true := fun p hp => List.all_eq_true.1 hpr p hp
      have hL' : ∀ k, (L ||| 2 ^ i).testBit k = true ↔ L.testBit k = true ∨ k = i := fun k => by
        rw [testBit_or_pow]; simp only [Bool.or_eq_true, decide_eq_true_eq]; exact or_congr Iff.rfl eq_comm
      rw [← msk_put (st0 := st0) (st := st) ho (X := La) (fun hx => hi (h3.sub i hx)) v]
      refine advance hF p (L ||| 2 ^ i) _ (st.put o.dst v) h1 hv ?_
      refine h3.step hF ho hi hp hL' v (fun k hk => (hL' k).2 (.inl (h3.sub k hk))) h3.cla (fun _ h => h) (fun x hx => by split <;> simp [hx]) ?_ ?_
      · intro j o' fz' hj hlj hla hne hs hr
        exact pend_keep hF h3 ho hi v hj hlj hne hr
      · intro _
        refine ⟨fz, ?_, ?_⟩
        · by_cases hs : sFree P o = true
          · exact .inl hs
          · exact .inr (by rw [if_neg hs]; simp)
        · have hna : ¬ (anc.getD i 0).testBit i = true := fun hx => Nat.lt_irrefl _ (anc_lt hF ho hx)
          rw [vw_put ho hna, ← (agree_abs hF h3.cl h3.un ho hi).rq]
          exact hrq
theorem fork_find {K : St → Store → Prop} {st : St} {S : Store} {L i : Nat} {qs : List (Nat × Bool)} : ∀ (p : Plan), planOk P ops anc p true L qs = true → evP P ops K p st S → i ∈ heads p → ∃ c p', planOk P ops anc (.e i c p') true L qs = true ∧ evP P ops K (.e i c p') st S
  | .done, _, _, h => by simp [heads] at h
  | .q _ _ _, _, _, h => by simp [heads] at h
  | .e j c p, h1, h2, h => by
    simp only [heads, List.mem_singleton] at h; subst h
    exact ⟨c, p, h1, h2⟩
  | .fork a b, h1, h2, h => by
    simp only [planOk, Bool.and_eq_true] at h1
    simp only [heads, List.mem_append] at h
    rcases h with h | h
    · exact fork_find a h1.1.2 h2.1 h
    · exact fork_find b h1.2 h2.2 h
theorem planOk_weaken {i : Nat} {c : List (Nat × Bool)} {p : Plan} {L : Nat} {qs : List (Nat × Bool)} (h : planOk P ops anc (.e i c p) false L qs = true) : planOk P ops anc (.e i c p) true L qs = true := by
  simp only [planOk, Bool.and_eq_true] at h ⊢
  obtain ⟨⟨_, h2⟩, h3⟩ := h
  exact ⟨⟨by simp, h2⟩, h3⟩
theorem event_find {K : St → Store → Prop} {st : St} {S : Store} {L i : Nat} {qs : List (Nat × Bool)} {p : Plan} (hq : isQ p = false) (h1 : planOk P ops anc p false L qs = true) (h2 : evP P ops K p st S) {o : Oper} (ho : ops[i]? = some o) (hi : ¬ L.testBit i = true) (hp : ∀ p ∈ prs o, L.testBit p = true) :
    ∃ c p', planOk P ops anc (.e i c p') true L qs = true ∧ evP P ops K (.e i c p') st S := by
  have hlt : i < ops.size := (Array.getElem?_eq_some_iff.1 ho).1
  have look : ∀ hs, sat ops L hs = true → i ∈ hs := by
    intro hs h
    have := List.all_eq_true.1 h i (List.mem_range.2 hlt)
    rw [ho] at this
    simp only [Bool.or_eq_true] at this
    rcases this with (h | h) | h
    · exact absurd h hi
    · simpa using h
    · obtain ⟨p, hpm, hn⟩ := List.any_eq_true.1 h
      rw [hp p hpm] at hn; cases hn
  cases p with
  | done =>
    simp only [planOk, Bool.and_eq_true] at h1
    exact absurd (List.all_eq_true.1 h1.2 i (List.mem_range.2 hlt)) hi
  | q _ _ _ => cases hq
  | e j c p =>
    have h1' := h1
    simp only [planOk, Bool.and_eq_true] at h1
    have hj : i ∈ [j] := look _ (by simpa using h1.1.1)
    obtain rfl := List.mem_singleton.1 hj
    exact ⟨c, p, planOk_weaken h1', h2⟩
  | fork a b =>
    simp only [planOk, Bool.and_eq_true] at h1
    have := look _ (by simpa using h1.1.1)
    rcases List.mem_append.1 this with h | h
    · exact fork_find a h1.1.2 h2.1 h
    · exact fork_find b h1.2 h2.2 h
end
end Go.Du
namespace Go.Du
open Go
def lst (listed : Array Bool) (i : Nat) : Prop := listed.getD i false = true
def cnt (listed : Array Bool) : Nat → Nat
  | 0 => 0
  | k + 1 => cnt listed k + (if listed.getD k false = true then 0 else 1)
theorem cnt_zero {listed : Array Bool} : ∀ {k : Nat}, cnt listed k = 0 → ∀ i, i < k → lst listed i
  | 0, _, i, hi => absurd hi (Nat.not_lt_zero _)
  | k + 1, h, i, hi => by
    simp only [cnt] at h
    by_cases e : i = k
    · subst e
      by_cases hl : listed.getD i false = true
      · exact hl
      · rw [if_neg hl] at h; omega
    · exact cnt_zero (k := k) (by omega) i (by omega)
theorem getD_set {listed : Array Bool} {i j : Nat} (hi : i < listed.size) : (listed.setIfInBounds i true).getD j false = true ↔ listed.getD j false = true ∨ j = i := by
  simp only [Array.getD_eq_getD_getElem?, Array.getElem?_setIfInBounds]
  by_cases e : i = j
  · subst e; simp [hi]
  · rw [if_neg e]
    constructor
    · exact .inl
    · rintro (h | h)
      · exact h
      · exact absurd h.symm e
theorem cnt_set {listed : Array Bool} {i : Nat} (hi : i < listed.size) (hn : ¬ lst listed i) : ∀ k, cnt (listed.setIfInBounds i true) k + (if i < k then 1 else 0) = cnt listed k
  | 0 => by simp [cnt]
  | k + 1 => by
    have ih := cnt_set hi hn k
    simp only [cnt]
    have hg := getD_set (j := k) hi
    by_cases e : k = i
    · subst e
      have : ¬ listed.getD k false = true := hn
      rw [if_pos (hg.2 (.inr rfl)), if_neg this, if_pos (Nat.lt_succ_self _)]
      rw [if_neg (Nat.lt_irrefl _)] at ih
      omega
    · have h2 : (listed.setIfInBounds i true).getD k false = true ↔ listed.getD k false = true := by rw [hg]; exact ⟨fun h => h.resolve_right e, .inl⟩
      have h3 : (i < k + 1) ↔ i < k := by omega
      by_cases h4 : listed.getD k false = true
      · rw [if_pos (h2.2 h4), if_pos h4]
        by_cases h5 : i < k
        · rw [if_pos (h3.2 h5)]; rw [if_pos h5] at ih; omega
        · rw [if_neg (fun h => h5 (h3.1 h))]; rw [if_neg h5] at ih; omega
      · rw [if_neg (fun h => h4 (h2.1 h)), if_neg h4]
        by_cases h5 : i < k
        · rw [if_pos (h3.2 h5)]; rw [if_pos h5] at ih; omega
        · rw [if_neg (fun h => h5 (h3.1 h))]; rw [if_neg h5] at ih; omega
theorem cnt_replicate {k n : Nat} (h : k ≤ n) : cnt (Array.replicate n false) k = k := by
  induction k with
  | zero => rfl
  | succ k ih => simp only [cnt]; rw [ih (by omega), if_neg (by simp [Array.getD_eq_getD_getElem?, Array.getElem?_replicate, show k < n by omega])]
section
variable {P : Program} {ops : Array Oper} {n : Nat} {anc : List Nat} {r : Option Nat}
theorem mem_ready {listed : Array Bool} (hs : listed.size = ops.size) {i : Nat} : i ∈ Region.ready .any ops listed ↔ ∃ o, ops[i]? = some o ∧ ¬ lst listed i ∧ ∀ p ∈ prs o, lst listed p := by
  unfold Region.ready
  simp only [List.mem_filter, List.mem_range]
  constructor
  · rintro ⟨hi, h⟩
    simp only [Array.getElem?_eq_getElem hi, Option.map_some, Option.getD_some, Bool.and_eq_true, Bool.not_eq_true'] at h
    refine ⟨ops[i], Array.getElem?_eq_getElem hi, fun hl => ?_, fun p hp => ?_⟩
    · have hl' : listed.getD i true = true := by
        unfold lst at hl
        have hi2 : i < listed.size := by omega
        simp only [Array.getD, hi2, ↓reduceDIte] at hl ⊢; exact hl
      rw [hl'] at h; cases h.1
    · simp only [prs, List.mem_map, List.mem_filter] at hp
      obtain ⟨e, ⟨he, hb⟩, rfl⟩ := hp
      have := Array.all_eq_true_iff_forall_mem.1 h.2 e (by simpa using he)
      rw [hb] at this
      simpa [lst] using this
  · rintro ⟨o, ho, hn, hp⟩
    have hi : i < ops.size := (Array.getElem?_eq_some_iff.1 ho).1
    refine ⟨hi, ?_⟩
    rw [ho]
    simp only [Option.map_some, Option.getD_some, Bool.and_eq_true, Bool.not_eq_true']
    refine ⟨?_, ?_⟩
    · unfold lst at hn
      have hi2 : i < listed.size := by omega
      simp only [Array.getD, hi2, ↓reduceDIte] at hn ⊢; simpa using hn
    · refine Array.all_eq_true_iff_forall_mem.2 fun e he => ?_
      by_cases hb : Region.binds .any e = true
      · have := hp e.on (List.mem_map.2 ⟨e, List.mem_filter.2 ⟨by simpa using he, hb⟩, rfl⟩)
        unfold lst at this
        rw [this]; simp
      · simp [hb]
theorem ready_nil (hF : RegF ops n anc) {listed : Array Bool} (hs : listed.size = ops.size) (h : Region.ready .any ops listed = []) : ∀ i, i < ops.size → lst listed i := by
  intro i
  induction i using Nat.strongRecOn with
  | ind i ih =>
    intro hi
    by_cases hl : lst listed i
    · exact hl
    · have : i ∈ Region.ready .any ops listed := (mem_ready hs).2 ⟨ops[i], Array.getElem?_eq_getElem hi, hl, fun p hp => by
        have := hF.lt (Array.getElem?_eq_getElem hi) hp
        exact ih p this (by omega)⟩
      rw [h] at this; cases this
theorem NextOk.upon {x : Result Next} {R : Value → World → Prop} (h : NextOk P x R) {o : Oper} {a : Act} {next : Act → World → Prop} {Q : Exit → Act → World → Prop} (hR : ∀ v w', R v w' → next (a.put o.dst v) w') : o.uponIn (Fw r) 0 P a next Q x := by
  have hc : ∀ f, (Fw r).fn f := fun f => trivial
  have hd : (Fw r).depth.isSome = true → 1 ≤ 0 := fun h => by cases h
  unfold NextOk at h
  split at h
  · exact hR _ _ h
  · exact hR _ _ h
  · refine ⟨hd, ?_⟩
    have h' : CallsIn (Fw r) 0 P _ _ _ _ := h
    refine h'.mono fun e w' he => ?_
    obtain ⟨v, rfl, hv⟩ := he
    exact hR _ _ hv
  · refine ⟨hd, ?_⟩
    have h' : RoundIn (Fw r) 0 P _ _ _ _ _ _ _ := h
    refine h'.mono fun e w' he => ?_
    obtain ⟨v, rfl, hv⟩ := he
    exact hR _ _ hv
  · exact h.elim
theorem wanted_of {hF : RegS ops n} {i : Nat} {o : Oper} {m : Mu} {st : St} {a : Act} (ho : ops[i]? = some o) (ht : RelT m n st a.tmps) {A B : Prop} (h : gdK (gdOf ops o) st A B) : (Region.wanted o (yielded ops a.tmps) = true ∧ A) ∨ (Region.wanted o (yielded ops a.tmps) = false ∧ B) := by
  unfold gdK at h
  unfold Region.wanted
  cases hg : o.guard with
  | none =>
    simp only [gdOf, hg] at h
    exact .inl ⟨rfl, h⟩
  | some g =>
    obtain ⟨j, w⟩ := g
    simp only [gdOf, hg] at h
    cases hj : ops[j]? with
    | none => rw [hj] at h; exact h.elim
    | some o' =>
      rw [hj] at h
      dsimp only at h
      cases hd : o'.dst with
      | none => rw [hd] at h; exact h.elim
      | some d =>
        rw [hd] at h
        dsimp only at h
        unfold gdW at h
        split at h
        · rename_i b hb
          have hdn := hF.dst hj hd
          have hr := ht.2 d hdn
          rw [hb] at hr
          have hv := hr.lit_inv
          have hy : yielded ops a.tmps j = some b := by
            have hsz : d < a.tmps.size := by rw [ht.1]; exact hdn
            have : a.tmps[d]? = some (.bool b) := by
              rw [Array.getElem?_eq_getElem hsz, ← hv]; simp [Array.getD, hsz]
            simp [yielded, hj, hd, this]
          dsimp only
          rw [hy]
          split at h
          · rename_i hbw; exact .inl ⟨by simp [hbw], h⟩
          · rename_i hbw; exact .inr ⟨by simp [hbw], h⟩
        · rename_i hb
          have hdn := hF.dst hj hd
          have hr := ht.2 d hdn
          rw [hb] at hr
          have hv : a.tmps.getD d undef = .tuple #[] := by
            generalize a.tmps.getD d undef = z at hr
            cases hr with
            | tuple hl r => rename_i cs; rw [Array.eq_empty_of_size_eq_zero hl.symm]
          have hy : yielded ops a.tmps j = none := by
            have hsz : d < a.tmps.size := by rw [ht.1]; exact hdn
            have : a.tmps[d]? = some (.tuple #[]) := by
              rw [Array.getElem?_eq_getElem hsz, ← hv]; simp [Array.getD, hsz]
            simp [yielded, hj, hd, this]
          dsimp only
          rw [hy]
          exact .inr ⟨by simp, h⟩
        · exact h.elim
theorem wpOp_of {hF : RegS ops n} {i : Nat} {o : Oper} {m : Mu} {st : St} {a : Act} {w : World} (ho : ops[i]? = some o) (ht : RelT m n st a.tmps) {Q : Exit → Act → World → Prop} {K : Act → World → Prop} {A B : Prop} (h : gdK (gdOf ops o) st A B)
    (hA : A → ∃ R, NextOk P ((execOp a.eval o).run P w) R ∧ ∀ v w', R v w' → K (a.put o.dst v) w') (hB : B → K (a.put o.dst undef) w) : wpOpIn (Fw r) 0 P ops Q i K a w := by
  unfold wpOpIn
  rw [ho]
  dsimp only
  rcases wanted_of (hF := hF) ho ht h with ⟨hw, hA'⟩ | ⟨hw, hB'⟩
  · rw [if_pos hw]
    obtain ⟨R, hn, hR⟩ := hA hA'
    refine ⟨fun _ _ => trivial, ?_⟩
    rw [Oper.semAt_eq _ _ _ (hF.nod ho)]
    exact hn.upon hR
  · rw [if_neg (by rw [hw]; exact Bool.false_ne_true)]
    exact ⟨fun _ _ => trivial, hB hB'⟩
theorem any_ok (hP : NoNG P) (hF : RegF ops n anc) {H0 : List (Nat × Obj)} {m : Mu} {st0 : St} {K : St → Store → Prop} {Q : Exit → Act → World → Prop}
    (hQ : ∀ m' a w st S, m.le m' → Rel m' S w → RelT m' n st a.tmps → Dfr H0 m' a → K st S → Q .normal a w) :
    ∀ (fuel : Nat) (listed : Array Bool) (a : Act) (w : World) (m' : Mu) (p : Plan) (L : Nat) (qs : List (Nat × Bool)) (st : St) (S : Store), listed.size = ops.size → cnt listed ops.size = fuel → m.le m' → Rel m' S w →
      RelT m' n (msk ops st0 st (lst listed)) a.tmps → Dfr H0 m' a → planOk P ops anc p false L qs = true → evP P ops K p st S → Inv P ops anc st0 (lst listed) (fun i => L.testBit i = true) qs st S →
      wpAnyIn (Fw r) 0 P .any ops Q fuel listed a w := by
  have allDone : ∀ (listed : Array Bool) (a : Act) (w : World) (m' : Mu) (p : Plan) (L : Nat) (qs : List (Nat × Bool)) (st : St) (S : Store), (∀ i, i < ops.size → lst listed i) → m.le m' → Rel m' S w →
      RelT m' n (msk ops st0 st (lst listed)) a.tmps → Dfr H0 m' a → planOk P ops anc p false L qs = true → evP P ops K p st S → Inv P ops anc st0 (lst listed) (fun i => L.testBit i = true) qs st S → isQ p = false → Q .normal a w := by
    intro listed a w m' p L qs st S hall hle hrel ht hd hp hev hinv hq
    have hL : ∀ i, i < ops.size → L.testBit i = true := fun i hi => hinv.sub i (hall i hi)
    have noE : ∀ (p : Plan) (L' : Nat) (inF : Bool), (∀ i, i < ops.size → L'.testBit i = true) → isQ p = false → planOk P ops anc p inF L' qs = true → p = .done := by
      intro p
      induction p with
      | done => intros; rfl
      | q i fz p _ => intro L' inF _ hq; simp [isQ] at hq
      | e i c p _ =>
        intro L' inF hL' _ hp
        simp only [planOk, Bool.and_eq_true] at hp
        have h1 := hp.1.2
        have h2 := hp.2
        cases ho : ops[i]? with
        | none => rw [ho] at h2; cases h2
        | some o => rw [hL' i (Array.getElem?_eq_some_iff.1 ho).1] at h1; cases h1
      | fork a b iha ihb =>
        intro L' inF hL' _ hp
        simp only [planOk, Bool.and_eq_true] at hp
        have ha : isQ a = false := by
          cases a with
          | q i fz p => have := hp.1.2; simp [planOk] at this
          | done => rfl
          | e i c p => rfl
          | fork a b => rfl
        have := iha L' true hL' ha hp.1.2
        subst this
        have := hp.1.2
        simp [planOk] at this
    obtain rfl := noE p L false hL hq hp
    have hm : msk ops st0 st (lst listed) = st := by
      funext t
      unfold msk
      rw [if_neg]
      rintro ⟨k, o, hk, _, hn⟩
      exact hn (hall k (Array.getElem?_eq_some_iff.1 hk).1)
    rw [hm] at ht
    exact hQ m' a w st S hle hrel ht hd hev
  intro fuel
  induction fuel with
  | zero =>
    intro listed a w m' p L qs st S hs hc hle hrel ht hd hp hev hinv
    obtain ⟨p, L, qs, st', hp, hev, hinv, hq, hm⟩ := advance hF p L qs st hp hev hinv
    rw [← hm] at ht
    have hall := cnt_zero hc
    refine ⟨?_, allDone listed a w m' p L qs st' S hall hle hrel ht hd hp hev hinv hq⟩
    cases hr : Region.ready .any ops listed with
    | nil => rfl
    | cons i l =>
      obtain ⟨o, ho, hn, _⟩ := (mem_ready hs).1 (show i ∈ Region.ready .any ops listed by rw [hr]; simp)
      exact absurd (hall i (Array.getElem?_eq_some_iff.1 ho).1) hn
  | succ fuel ih =>
    intro listed a w m' p L qs st S hs hc hle hrel ht hd hp hev hinv
    obtain ⟨p, L, qs, st', hp, hev, hinv, hq, hm⟩ := advance hF p L qs st hp hev hinv
    rw [← hm] at ht
    clear hm
    refine ⟨fun hr => allDone listed a w m' p L qs st' S (ready_nil hF hs hr) hle hrel ht hd hp hev hinv hq, fun i hi => ?_⟩
    obtain ⟨o, ho, hn, hpr⟩ := (mem_ready hs).1 hi
    have hil : i < listed.size := by rw [hs]; exact (Array.getElem?_eq_some_iff.1 ho).1
    have hs' : (listed.setIfInBounds i true).size = ops.size := by simpa using hs
    have hc' : cnt (listed.setIfInBounds i true) ops.size = fuel := by
      have := cnt_set hil hn ops.size
      rw [if_pos (by rw [← hs]; exact hil)] at this
      omega
    have hX' : ∀ k, lst (listed.setIfInBounds i true) k ↔ lst listed k ∨ k = i := fun k => getD_set hil
    have hcla' := hinv.cla.add ho hpr hX'
    have hact := agree_act hF hinv.cla (st0 := st0) (st := st') ho hn hpr
    by_cases hiL : L.testBit i = true
    ·
      obtain ⟨fz, _, hrq⟩ := hinv.pend i o ho hiL hn
      rw [← hact.rq] at hrq
      have hinv' : Inv P ops anc st0 (lst (listed.setIfInBounds i true)) (fun i => L.testBit i = true) qs st' S :=
        ⟨fun k hk => ((hX' k).1 hk).elim (hinv.sub k) (fun e => e ▸ hiL), hinv.cl, hcla', hinv.un, fun j o' hj hl hla => hinv.pend j o' hj hl fun hx => hla ((hX' j).2 (.inl hx))⟩
      refine wpOp_of (hF := hF.toRegS) ho ht hrq ?_ ?_
      · intro hA
        obtain ⟨v, hv, hdv⟩ : ∃ v, opQ P fz o (msk ops st0 st' (lst listed)) S = some v ∧ ∀ d, o.dst = some d → st' d = v := by
          cases hd' : o.dst with
          | none => rw [hd'] at hA; obtain ⟨v, hv⟩ := hA; exact ⟨v, hv, fun d h => by cases h⟩
          | some d => rw [hd'] at hA; exact ⟨_, hA, fun d' h => by cases h; rfl⟩
        obtain ⟨v', w', m'', hx, hle', hH, hrel', hv'⟩ := opQ_ok hrel ht (hF.opds ho) hv
        refine ⟨fun v w => v = v' ∧ w = w', by rw [hx]; exact ⟨rfl, rfl⟩, ?_⟩
        intro v1 w1 e1
        obtain ⟨e1, e2⟩ := e1
        rw [e1, e2]
        refine ih _ _ _ m'' p L qs st' S hs' hc' (hle.trans hle') hrel' ?_ ?_ hp hev hinv'
        · rw [msk_add hF ho hX' hdv (fun t _ => rfl)]
          exact (ht.mono hle').put (fun d hd => hF.dst ho hd) hv'
        · obtain ⟨D, d1, d2⟩ := hd.put o.dst v'
          exact ⟨D, d1, hH.trans d2⟩
      · intro hB
        refine ih _ _ _ m' p L qs st' S hs' hc' hle hrel ?_ (hd.put _ _) hp hev hinv'
        rw [msk_add hF ho hX' (v := undefA) (fun d hd => by rw [hd] at hB; exact hB) (fun t _ => rfl)]
        exact ht.put (fun d hd => hF.dst ho hd) (.undef _)
    ·
      have hprL : ∀ p ∈ prs o, L.testBit p = true := fun p hp => hinv.sub p (hpr p hp)
      obtain ⟨c, p', hp', hev'⟩ := event_find hq hp hev ho hiL hprL
      have hag : Agree ops o (msk ops st0 st' (lst listed)) st' := hact.trans (agree_abs hF hinv.cl hinv.un ho hiL).symm
      simp only [planOk, Bool.and_eq_true, ho] at hp'
      obtain ⟨⟨⟨hp1, hp2⟩, hp3⟩, hp4⟩ := hp'.2
      have hL' : ∀ k, (L ||| 2 ^ i).testBit k = true ↔ L.testBit k = true ∨ k = i := fun k => by
        rw [testBit_or_pow]; simp only [Bool.or_eq_true, decide_eq_true_eq]; exact or_congr Iff.rfl eq_comm
      have next : ∀ (x : AV) (v : Value) (S' : Store) (m'' : Mu) (w' : World), andP c (reck P ops (st'.put o.dst x) S' c) (evP P ops K p' (st'.put o.dst x) S') → m'.le m'' → m''.H = m'.H → Rel m'' S' w' → RelV m'' x v →
          wpAnyIn (Fw r) 0 P .any ops Q fuel (listed.setIfInBounds i true) (a.put o.dst v) w' := by
        intro x v S' m'' w' hk hle' hH hrel' hv'
        have hk' : reck P ops (st'.put o.dst x) S' c ∧ evP P ops K p' (st'.put o.dst x) S' := by
          cases c with
          | nil => exact ⟨trivial, hk⟩
          | cons y l => exact hk
        obtain ⟨hre, hev2⟩ := hk'
        refine ih _ _ _ m'' p' (L ||| 2 ^ i) qs (st'.put o.dst x) S' hs' hc' (hle.trans hle') hrel' ?_ ?_ hp4 hev2 ?_
        · rw [msk_add hF ho hX' (st := st') (v := x) (fun d hd => by rw [hd]; simp [St.put]) (fun t ht => by
            cases hd : o.dst with
            | none => rfl
            | some d => simp only [St.put]; rw [if_neg (ht d hd)])]
          exact (ht.mono hle').put (fun d hd => hF.dst ho hd) hv'
        · obtain ⟨D, d1, d2⟩ := hd.put o.dst v
          exact ⟨D, d1, hH.trans d2⟩
        · have hun : ∀ t, (∀ k o', ops[k]? = some o' → o'.dst = some t → ¬ (L ||| 2 ^ i).testBit k = true) → (st'.put o.dst x) t = st0 t := by
            intro t ht
            have h1 : ∀ d, o.dst = some d → t ≠ d := fun d hd e => ht i o ho (e ▸ hd) ((hL' i).2 (.inr rfl))
            have h2 := hinv.un t fun k o' hk hd hl => ht k o' hk hd ((hL' k).2 (.inl hl))
            rw [← h2]
            cases hd : o.dst with
            | none => rfl
            | some d => simp only [St.put]; rw [if_neg (h1 d hd)]
          refine hinv.step hF ho hiL hprL hL' x (fun k hk => ((hX' k).1 hk).elim (fun h => (hL' k).2 (.inl (hinv.sub k h))) (fun e => (hL' k).2 (.inr e))) hcla' (fun k hk => (hX' k).2 (.inl hk)) (fun _ h => h) ?_ (fun hx => absurd ((hX' i).2 (.inr rfl)) hx)
          intro j o' fz hj hlj hla hne hfr hr
          have hkeep := pend_keep hF hinv ho hiL x hj hlj hne hr
          rcases hfr with hfr | hmem
          · rw [← rq1_free hfr]; exact hkeep
          · have hjl : ¬ lst listed j := fun h => hla ((hX' j).2 (.inl h))
            have h5 := List.all_eq_true.1 hp2 (j, fz) hmem
            simp only [Bool.or_eq_true] at h5
            rcases h5 with h5 | h5
            · exact absurd (anc_sub hF hinv.cla i o ho hpr j h5) hjl
            · have hmc : (j, fz) ∈ c := by simpa using h5
              have h6 := List.all_eq_true.1 hp3 (j, fz) hmc
              have h7 : rq1 P ops fz o' (st'.put o.dst x) S' (st'.put o.dst x) := by
                have : ∀ (l : List (Nat × Bool)), reck P ops (st'.put o.dst x) S' l → (j, fz) ∈ l → rq1 P ops fz o' (st'.put o.dst x) S' (st'.put o.dst x) := by
                  intro l
                  induction l with
                  | nil => intro _ h; cases h
                  | cons y l ihl =>
                    obtain ⟨y1, y2⟩ := y
                    intro h hm
                    simp only [reck] at h
                    rcases List.mem_cons.1 hm with e | e
                    · cases e
                      rw [hj] at h
                      exact h.1
                    · exact ihl h.2 e
                exact this c hre hmc
              have hag2 : Agree ops o' (st'.put o.dst x) (vw ops anc st0 j (st'.put o.dst x)) := by
                intro t ht2
                unfold vw msk
                split
                · rename_i hw
                  obtain ⟨k, ok, hk, hdk, hnk⟩ := hw
                  refine hun t fun k' o'' hk' hd' hl' => ?_
                  have := hF.uniq hk hk' hdk hd'
                  subst this
                  unfold chkOk at h6
                  rw [hj] at h6
                  have h8 := List.all_eq_true.1 h6 k (List.mem_range.2 (Array.getElem?_eq_some_iff.1 hk).1)
                  rw [hk] at h8
                  dsimp only at h8
                  rw [hdk, hl'] at h8
                  simp only [Bool.not_true, Bool.false_or, Bool.or_eq_true] at h8
                  rcases h8 with h8 | h8
                  · exact hnk h8
                  · simp [ht2] at h8
                · rfl
              rw [← hag2.rq]; exact h7
      simp only [evP, ho] at hev'
      have hgd : gdK (gdOf ops o) st' (evW P o st' S fun v S' => andP c (reck P ops (st'.put o.dst v) S' c) (evP P ops K p' (st'.put o.dst v) S')) (andP c (reck P ops (st'.put o.dst undefA) S c) (evP P ops K p' (st'.put o.dst undefA) S)) := by
        unfold gdK
        cases hg : gdOf ops o with
        | none => rw [hg] at hev'; exact hev'.elim
        | some g => cases g with
          | none => rw [hg] at hev'; exact hev'
          | some g => obtain ⟨d, w⟩ := g; rw [hg] at hev'; exact hev'
      rw [← hag.gd] at hgd
      refine wpOp_of (hF := hF.toRegS) ho ht hgd ?_ ?_
      · intro hA
        rw [← evW_congr hag.opd] at hA
        refine ⟨_, evW_ok hP hrel ht (hF.opds ho) hA, ?_⟩
        rintro v w' ⟨x, S', m'', hk, hle', hH, hrel', hv'⟩
        exact next x v S' m'' w' hk hle' hH hrel' hv'
      · intro hB
        exact next undefA undef S m' w hB (.refl m') rfl hrel (.undef _)
def opS (n : Nat) (o : Oper) : Bool := opdsOk n o && noDefer o && (match o.dst with | some d => decide (d < n) | none => true)
def seqOk (ops : Array Oper) : Plan → Nat → Bool
  | .done, k => k == ops.size
  | .q i _ p, k => i == k && seqOk ops p (k + 1)
  | .e i c p, k => i == k && c.isEmpty && seqOk ops p (k + 1)
  | .fork _ _, _ => false
theorem regS_spec (h : ops.all (opS n) = true) : RegS ops n := by
  have h0 : ∀ i o, ops[i]? = some o → opS n o = true := fun i o ho => Array.all_eq_true_iff_forall_mem.1 h o (Array.mem_of_getElem? ho)
  refine ⟨fun {i o} ho => ?_, fun {i o} ho c hc => ?_, fun {i o d} ho hd => ?_⟩ <;> have := h0 _ _ ho <;> simp only [opS, Bool.and_eq_true] at this
  · exact this.1.1
  · have := this.1.2; simp [noDefer, hc] at this
  · have := this.2; rw [hd] at this; simpa using this
theorem seq_ok (hP : NoNG P) (hF : RegS ops n) {H0 : List (Nat × Obj)} {m : Mu} {K : St → Store → Prop} {Q : Exit → Act → World → Prop}
    (hQ : ∀ m' a w st S, m.le m' → Rel m' S w → RelT m' n st a.tmps → Dfr H0 m' a → K st S → Q .normal a w) :
    ∀ (p : Plan) (k c : Nat) (a : Act) (w : World) (m' : Mu) (st : St) (S : Store), seqOk ops p k = true → k + c = ops.size → m.le m' → Rel m' S w → RelT m' n st a.tmps → Dfr H0 m' a → evP P ops K p st S →
      wpOpsIn (Fw r) 0 P ops Q (List.range' k c) a w
  | .fork _ _, _, _, _, _, _, _, _, h, _, _, _, _, _, _ => by cases h
  | .done, k, c, a, w, m', st, S, h, hk, hle, hrel, ht, hd, hev => by
    have : c = 0 := by have : k = ops.size := by simpa [seqOk] using h
                       omega
    subst this
    exact hQ m' a w st S hle hrel ht hd hev
  | .q i fz p, k, c, a, w, m', st, S, h, hk, hle, hrel, ht, hd, hev => by
    simp only [seqOk, Bool.and_eq_true, beq_iff_eq] at h
    obtain ⟨rfl, h⟩ := h
    cases ho : ops[i]? with
    | none => simp only [evP, ho] at hev
    | some o =>
      obtain ⟨c, rfl⟩ : ∃ c', c = c' + 1 := ⟨c - 1, by have := (Array.getElem?_eq_some_iff.1 ho).1; omega⟩
      rw [List.range'_succ, wpOpsIn_cons]
      obtain ⟨x, hx, hrq⟩ := evQ_inv ho hev
      refine wpOp_of (hF := hF) ho ht hrq ?_ ?_
      · intro hA
        obtain ⟨v, hv, hdv⟩ : ∃ v, opQ P fz o st S = some v ∧ st.put o.dst x = st.put o.dst v := by
          cases hd' : o.dst with
          | none => rw [hd'] at hA; obtain ⟨v, hv⟩ := hA; exact ⟨v, hv, rfl⟩
          | some d => rw [hd'] at hA; exact ⟨x, by simpa [St.put] using hA, rfl⟩
        rw [hdv] at hx
        obtain ⟨v', w', m'', hr, hle', hH, hrel', hv'⟩ := opQ_ok hrel ht (hF.opds ho) hv
        refine ⟨fun v w => v = v' ∧ w = w', by rw [hr]; exact ⟨rfl, rfl⟩, ?_⟩
        intro v1 w1 e1
        obtain ⟨e1, e2⟩ := e1
        rw [e1, e2]
        refine seq_ok hP hF hQ p _ _ _ _ m'' _ S h (by omega) (hle.trans hle') hrel' ((ht.mono hle').put (fun d hd => hF.dst ho hd) hv') ?_ hx
        obtain ⟨D, d1, d2⟩ := hd.put o.dst v'
        exact ⟨D, d1, hH.trans d2⟩
      · intro hB
        have e : st.put o.dst x = st.put o.dst undefA := by
          cases hd' : o.dst with
          | none => rfl
          | some d => rw [hd'] at hB; simp only [St.put, if_true] at hB; rw [hB]
        rw [e] at hx
        exact seq_ok hP hF hQ p _ _ _ _ m' _ S h (by omega) hle hrel (ht.put (fun d hd => hF.dst ho hd) (.undef _)) (hd.put _ _) hx
  | .e i ch p, k, c, a, w, m', st, S, h, hk, hle, hrel, ht, hd, hev => by
    simp only [seqOk, Bool.and_eq_true, beq_iff_eq] at h
    obtain ⟨⟨rfl, hc⟩, h⟩ := h
    have hch : ch = [] := by simpa using hc
    subst hch
    cases ho : ops[i]? with
    | none => simp only [evP, ho] at hev
    | some o =>
      obtain ⟨c, rfl⟩ : ∃ c', c = c' + 1 := ⟨c - 1, by have := (Array.getElem?_eq_some_iff.1 ho).1; omega⟩
      rw [List.range'_succ, wpOpsIn_cons]
      simp only [evP, ho, andP] at hev
      have hgd : gdK (gdOf ops o) st (evW P o st S fun v S' => evP P ops K p (st.put o.dst v) S') (evP P ops K p (st.put o.dst undefA) S) := by
        unfold gdK
        cases hg : gdOf ops o with
        | none => rw [hg] at hev; exact hev.elim
        | some g => cases g with
          | none => rw [hg] at hev; exact hev
          | some g => obtain ⟨d, w⟩ := g; rw [hg] at hev; exact hev
      refine wpOp_of (hF := hF) ho ht hgd ?_ ?_
      · intro hA
        refine ⟨_, evW_ok hP hrel ht (hF.opds ho) hA, ?_⟩
        rintro v w' ⟨x, S', m'', hx, hle', hH, hrel', hv'⟩
        refine seq_ok hP hF hQ p _ _ _ _ m'' _ S' h (by omega) (hle.trans hle') hrel' ((ht.mono hle').put (fun d hd => hF.dst ho hd) hv') ?_ hx
        obtain ⟨D, d1, d2⟩ := hd.put o.dst v
        exact ⟨D, d1, hH.trans d2⟩
      · intro hB
        exact seq_ok hP hF hQ p _ _ _ _ m' _ S h (by omega) hle hrel (ht.put (fun d hd => hF.dst ho hd) (.undef _)) (hd.put _ _) hB
def regionOk (P : Program) (n : Nat) (ops : Array Oper) (draw : Bool) (anc : List Nat) (p : Plan) : Bool :=
  match draw with
  | true => regOk ops n anc && planOk P ops anc p false 0 []
  | false => ops.all (opS n) && seqOk ops p 0
theorem AWp_region (hP : NoNG P) (hm : P.follows .mixedOrders = true) {id : Nat} {draw : Bool} {p : Plan} {K : AK} {st : St} {S : Store} (h : regionOk P n ops draw anc p = true) (hev : evP P ops (K .normal) p st S) : AWp P r n (.region id ops draw) K st S := by
  intro H0 m a w h1 h2 h3
  have hQ : ∀ m' a w st S, m.le m' → Rel m' S w → RelT m' n st a.tmps → Dfr H0 m' a → K .normal st S → post n H0 m K .normal a w := fun m' a w st S g1 g2 g3 g4 g5 => ⟨m', st, S, g1, g2, g3, g4, g5⟩
  cases draw with
  | true =>
    simp only [regionOk, Bool.and_eq_true] at h
    have hF := regOk_spec h.1
    refine wpIn_region_any hm ?_
    have hl : ∀ i, ¬ lst (Array.replicate ops.size false) i := fun i hi => by
      unfold lst at hi
      simp only [Array.getD_eq_getD_getElem?, Array.getElem?_replicate] at hi
      split at hi <;> simp at hi
    refine any_ok hP hF (st0 := st) (K := K .normal) hQ ops.size _ a _ m p 0 [] st S (by simp) (cnt_replicate (Nat.le_refl _)) (.refl m) h1.drew ?_ h3 h.2 hev ?_
    · have e : msk ops st st (lst (Array.replicate ops.size false)) = st := by funext t; unfold msk; split <;> rfl
      rw [e]; exact h2
    · exact ⟨fun i hi => absurd hi (hl i), fun i o _ hi => by simp at hi, fun i o _ hi => absurd hi (hl i), fun t _ => rfl, fun j o _ hi => by simp at hi⟩
  | false =>
    simp only [regionOk, Bool.and_eq_true] at h
    refine wpIn_region ?_
    rw [List.range_eq_range']
    exact seq_ok hP (regS_spec h.1) (K := K .normal) hQ p 0 ops.size a w m st S h.2 (by omega) (.refl m) h1 h2 h3 hev
end
end Go.Du
namespace Go.Du
open Go
inductive Ann where
  | nil
  | reg (anc : List Nat) (p : Plan)
  | two (a b : Ann)
  | join (ml : List Nat) (a b : Ann)
  | one (a : Ann)
  | loop (ml : List Nat)
def ofL : List (Nat × AV) → St
  | [], _ => .poison
  | (i, v) :: l, t => if t = i then v else ofL l t
def mask (ml : List Nat) (st : St) : St := ofL (ml.map fun t => (t, st t))
theorem mask_or (ml : List Nat) (st : St) (i : Nat) : mask ml st i = st i ∨ mask ml st i = .poison := by
  unfold mask
  induction ml with
  | nil => exact .inr rfl
  | cons t ml ih =>
    simp only [List.map_cons, ofL]
    by_cases e : i = t
    · rw [if_pos e, e]; exact .inl rfl
    · rw [if_neg e]; exact ih
def condW (g : AV) (A B : Prop) : Prop :=
  match g with
  | .lit (.bool b) => if b = true then A else B
  | _ => False
def W (P : Program) (r : Option Nat) (n : Nat) : Code → Ann → AK → St → Store → Prop
  | .skip, _, K, st, S => K .normal st S
  | .label _, _, K, st, S => K .normal st S
  | .exit id, _, K, st, S => K (.exit id) st S
  | .goto l, _, K, st, S => K (.goto l) st S
  | .ret, _, K, st, S => K .ret st S
  | .region _ ops _, .reg _ p, K, st, S => evP P ops (K .normal) p st S
  | .seq a b, .two x y, K, st, S => W P r n a x (AK.andThen (fun st S => W P r n b y K st S) K) st S
  | .seq a b, .join ml x _, K, st, S => W P r n a x (AK.andThen (fun st S => AWp P r n b K (mask ml st) S) K) st S
  | .cond c a b, .two x y, K, st, S => condW (aev st c) (W P r n a x K st S) (W P r n b y K st S)
  | .block id c, .one x, K, st, S => W P r n c x (AK.block id K) st S
  | .loop c, .loop ml, K, st, S => AI P r n [.code c, .inLoop c] K (mask ml st) S
  | .scope c, .loop ml, K, st, S => AI P r n [.code c, .inScope c] K (mask ml st) S
  | .rangeFunc f ps a b, .loop ml, K, st, S => AWp P r n (.rangeFunc f ps a b) K (mask ml st) S
  | _, _, _, _, _ => False
def annOk (P : Program) (n : Nat) : Code → Ann → Bool
  | .region _ ops draw, .reg anc p => regionOk P n ops draw anc p
  | .seq a b, .two x y => annOk P n a x && annOk P n b y
  | .seq a _, .join _ x _ => annOk P n a x
  | .cond c a b, .two x y => opdOk n c && annOk P n a x && annOk P n b y
  | .block _ c, .one x => annOk P n c x
  | .skip, _ | .label _, _ | .exit _, _ | .goto _, _ | .ret, _ => true
  | .loop _, .loop _ | .scope _, .loop _ | .rangeFunc _ _ _ _, .loop _ => true
  | _, _ => false
def mskK (ml : List Nat) (K : AK) : AK := fun e st S => K e (mask ml st) S
section
variable {P : Program} {r : Option Nat} {n : Nat} {K : AK} {st : St} {S : Store}
theorem AI.mask {xs : List Item} {ml : List Nat} (h : AI P r n xs K (mask ml st) S) : AI P r n xs K st S := AI.weaken (mask_or ml st) h
theorem RelT.mask {m : Mu} {a : Array Value} (ml : List Nat) (h : RelT m n st a) : RelT m n (Go.Du.mask ml st) a :=
  ⟨h.1, fun i hi => by
    rcases mask_or ml st i with e | e
    · rw [e]; exact h.2 i hi
    · rw [e]; exact .poison _⟩
theorem AI.mskK {xs : List Item} {ml : List Nat} (h : AI P r n xs (mskK ml K) st S) : AI P r n xs K st S :=
  fun H0 m a w h1 h2 h3 => itemsIn_mono (h H0 m a w h1 h2 h3) (by
    intro e a w h
    cases e <;> first | exact h | (obtain ⟨m', st, S, h1, h2, h3, h4, h5⟩ := h; exact ⟨m', _, S, h1, h2, h3.mask ml, h4, h5⟩))
theorem AWp_cond {c : Operand} {a b : Code} (hc : opdOk n c = true) (h : condW (aev st c) (AWp P r n a K st S) (AWp P r n b K st S)) : AWp P r n (.cond c a b) K st S := by
  intro H0 m a' w h1 h2 h3
  rw [itemsIn_code]
  have hr := relV_aev h2 hc
  unfold condW at h
  split at h
  · rename_i t e
    rw [e] at hr
    have hv := hr.lit_inv
    refine wpIn_cond hv ?_
    cases t with
    | true => exact h H0 m a' w h1 h2 h3
    | false => exact h H0 m a' w h1 h2 h3
  · exact h.elim
theorem andThen_mono {N N' : St → Store → Prop} (h : ∀ st S, N st S → N' st S) : ∀ e st S, AK.andThen N K e st S → AK.andThen N' K e st S := by
  intro e st S hh
  cases e <;> first | exact h _ _ hh | exact hh
theorem condW_mono {g : AV} {A B A' B' : Prop} (h : condW g A B) (ha : A → A') (hb : B → B') : condW g A' B' := by
  unfold condW at *
  split at h
  · split at h
    · rename_i e; subst e; simpa using ha h
    · rename_i e; rw [if_neg e]; exact hb h
  · exact h
theorem W_ok (hP : NoNG P) (hm : P.follows .mixedOrders = true) : ∀ (c : Code) (x : Ann) (K : AK) (st : St) (S : Store), annOk P n c x = true → W P r n c x K st S → AWp P r n c K st S := by
  intro c
  induction c with
  | skip => intro x K st S _ h; exact AWp_skip h
  | label l => intro x K st S _ h; exact AWp_label h
  | exit id => intro x K st S _ h; exact AWp_exit h
  | goto l => intro x K st S _ h; exact AWp_goto h
  | ret => intro x K st S _ h; exact AWp_ret h
  | refuse w => intro x K st S ha h; cases x <;> exact h.elim
  | region id ops draw =>
    intro x K st S ha h
    cases x with
    | reg anc p => exact AWp_region hP hm ha h
    | _ => exact h.elim
  | seq a b iha ihb =>
    intro x K st S ha h
    cases x with
    | two x y =>
      simp only [annOk, Bool.and_eq_true] at ha
      exact AWp_seq ((iha x _ st S ha.1 h).mono (andThen_mono fun st S h => ihb y K st S ha.2 h))
    | join ml x y =>
      exact AWp_seq ((iha x _ st S ha h).mono (andThen_mono fun st S h => AI.mask h))
    | _ => exact h.elim
  | cond c a b iha ihb =>
    intro x K st S ha h
    cases x with
    | two x y =>
      simp only [annOk, Bool.and_eq_true] at ha
      exact AWp_cond ha.1.1 (condW_mono h (iha x K st S ha.1.2) (ihb y K st S ha.2))
    | _ => exact h.elim
  | block id c ih =>
    intro x K st S ha h
    cases x with
    | one x => exact AWp_block (ih x _ st S ha h)
    | _ => exact h.elim
  | loop c _ =>
    intro x K st S ha h
    cases x with
    | loop ml => exact AWp_loop (AI.mask h)
    | _ => exact h.elim
  | scope c _ =>
    intro x K st S ha h
    cases x with
    | loop ml => exact AWp_scope (AI.mask h)
    | _ => exact h.elim
  | rangeFunc f ps a b _ _ =>
    intro x K st S ha h
    cases x with
    | loop ml => exact AI.mask h
    | _ => exact h.elim
theorem loop_pt (hP : NoNG P) (hm : P.follows .mixedOrders = true) {c : Code} {x : Ann} (ha : annOk P n c x = true) {ml me : List Nat} (h : W P r n c x (AK.andThen (fun st S => AI P r n [.code c, .inLoop c] K (mask ml st) S) (mskK me K)) st S) : AI P r n [.code c, .inLoop c] K st S := by
  refine AI_round ?_
  have h1 := W_ok hP hm c x _ st S ha h
  intro H0 m a w g1 g2 g3
  refine itemsIn_mono (h1 H0 m a w g1 g2 g3) ?_
  intro e a w h
  cases e with
  | normal => obtain ⟨m', st, S, h1, h2, h3, h4, h5⟩ := h; exact ⟨m', _, S, h1, h2, h3, h4, AI.mask h5⟩
  | panic _ => exact h
  | outgrown => exact h
  | exit _ => obtain ⟨m', st, S, h1, h2, h3, h4, h5⟩ := h; exact ⟨m', _, S, h1, h2, h3.mask me, h4, h5⟩
  | goto _ => obtain ⟨m', st, S, h1, h2, h3, h4, h5⟩ := h; exact ⟨m', _, S, h1, h2, h3.mask me, h4, h5⟩
  | ret => obtain ⟨m', st, S, h1, h2, h3, h4, h5⟩ := h; exact ⟨m', _, S, h1, h2, h3.mask me, h4, h5⟩
def AK.scopeM (P : Program) (r : Option Nat) (n : Nat) (c : Code) (ml : List Nat) (K K' : AK) : AK
  | .goto l, st, S => match findLabel c l with
    | some rest => AI P r n [.code rest, .inScope c] K (mask ml st) S
    | none => K' (.goto l) st S
  | e, st, S => K' e st S
theorem scope_pt (hP : NoNG P) (hm : P.follows .mixedOrders = true) {c y : Code} {x : Ann} (ha : annOk P n y x = true) {ml me : List Nat} (h : W P r n y x (AK.scopeM P r n c ml K (mskK me K)) st S) : AI P r n [.code y, .inScope c] K st S := by
  refine AI_inScope ?_
  have h1 := W_ok hP hm y x _ st S ha h
  intro H0 m a w g1 g2 g3
  refine itemsIn_mono (h1 H0 m a w g1 g2 g3) ?_
  intro e a w h
  cases e with
  | goto l =>
    obtain ⟨m', st, S, h1, h2, h3, h4, h5⟩ := h
    simp only [AK.scopeM] at h5
    cases hf : findLabel c l with
    | none => rw [hf] at h5; exact ⟨m', _, S, h1, h2, h3.mask me, h4, by simp only [AK.scope, hf]; exact h5⟩
    | some rest => rw [hf] at h5; exact ⟨m', _, S, h1, h2, h3, h4, by simp only [AK.scope, hf]; exact AI.mask h5⟩
  | panic _ => exact h
  | outgrown => exact h
  | normal => obtain ⟨m', st, S, h1, h2, h3, h4, h5⟩ := h; exact ⟨m', _, S, h1, h2, h3.mask me, h4, h5⟩
  | exit _ => obtain ⟨m', st, S, h1, h2, h3, h4, h5⟩ := h; exact ⟨m', _, S, h1, h2, h3.mask me, h4, h5⟩
  | ret => obtain ⟨m', st, S, h1, h2, h3, h4, h5⟩ := h; exact ⟨m', _, S, h1, h2, h3.mask me, h4, h5⟩
end
def resA (P : Program) : List ResultVar → St → Store → Option (List AV)
  | [], _, _ => some []
  | .tmp t :: rs, st, S => (resA P rs st S).map (st t :: ·)
  | .cell a ty :: rs, st, S => match tInfo P ty with
    | some (ag, sz) => match ldv ag sz (st a) S with
      | some v => (resA P rs st S).map (v :: ·)
      | none => none
    | none => none
def retW (r : Option (List AV)) (Q : AV → Store → Prop) (S : Store) : Prop :=
  match r with
  | some [x] => Q x S
  | some l => Q (.tuple l) S
  | none => False
def retK (P : Program) (fn : Func) (Q : AV → Store → Prop) : AK
  | .normal, st, S => retW (resA P fn.results.toList st S) Q S
  | .ret, st, S => retW (resA P fn.results.toList st S) Q S
  | _, _, _ => False
def resOk1 (n : Nat) : ResultVar → Bool
  | .tmp t => decide (t < n)
  | .cell a _ => decide (a < n)
def resOk (fn : Func) : Bool := fn.results.all (resOk1 fn.ntmps)
def stA (args : List AV) : St := fun t => args.getD t .poison
section
variable {P : Program}
def resOne (tmps : Array Value) (x : ResultVar) : Sem Value :=
  match x with
  | .tmp t => pure (tmps.getD t undef)
  | .cell a t => do loadVar t (← asAddr (tmps.getD a undef))
theorem results_eq (fn : Func) (tmps : Array Value) : results fn tmps = (do let vs ← fn.results.mapM (resOne tmps); pure (if h : vs.size = 1 then vs[0] else .tuple vs)) := rfl
theorem ldv_ptr {ag : Bool} {sz : Nat} {y x : AV} {S : Store} (h : ldv ag sz y S = some x) {m : Mu} {z : Value} (hr : RelV m y z) : ∃ ad, z = .pointer (some ad) := by
  unfold ldv at h
  split at h
  · cases hr; exact ⟨_, rfl⟩
  · cases hr; exact ⟨_, rfl⟩
  · cases h
theorem resOne_ok {n : Nat} {m : Mu} {S : Store} {w : World} (h : Rel m S w) {st : St} {tmps : Array Value} (ht : RelT m n st tmps) : ∀ (rs : List ResultVar) (l : List AV), (∀ x ∈ rs, resOk1 n x = true) → resA P rs st S = some l →
      ∃ vs : List Value, (rs.mapM (resOne tmps)).run P w = .ok vs w ∧ l.length = vs.length ∧ ∀ i (hi : i < l.length), RelV m l[i] (vs.getD i undef)
  | [], l, _, hl => by
    simp only [resA, Option.some.injEq] at hl; subst hl
    exact ⟨[], by simp, rfl, fun i hi => absurd hi (Nat.not_lt_zero _)⟩
  | x :: rs, l, hok, hl => by
    have hx := hok x (by simp)
    have fin : ∀ (v : AV) (u : Value) (l' : List AV), resA P rs st S = some l' → l = v :: l' → RelV m v u → (resOne tmps x).run P w = .ok u w →
        ∃ vs : List Value, ((x :: rs).mapM (resOne tmps)).run P w = .ok vs w ∧ l.length = vs.length ∧ ∀ i (hi : i < l.length), RelV m l[i] (vs.getD i undef) := by
      intro v u l' hl' e hv hu
      subst e
      obtain ⟨vs, h1, h2, h3⟩ := resOne_ok h ht rs l' (fun y hy => hok y (by simp [hy])) hl'
      refine ⟨u :: vs, ?_, by simp [h2], fun i hi => ?_⟩
      · rw [List.mapM_cons]
        simp only [Sem.run_bind, hu, Result.andThen_ok, h1, Sem.run_pure]
      · cases i with
        | zero => exact hv
        | succ i => simpa using h3 i (by simpa using hi)
    cases x with
    | tmp t =>
      obtain ⟨l', hl', e⟩ := Option.map_eq_some_iff.1 hl
      exact fin _ _ l' hl' e.symm (ht.2 t (by simpa [resOk1] using hx)) rfl
    | cell a ty =>
      simp only [resA] at hl
      split at hl
      · rename_i ag sz hti
        split at hl
        · rename_i v hv
          obtain ⟨l', hl', e⟩ := Option.map_eq_some_iff.1 hl
          have ha := ht.2 a (by simpa [resOk1] using hx)
          obtain ⟨u, hu, hr⟩ := ldv_ok (P := P) h hti ha hv
          refine fin _ u l' hl' e.symm hr ?_
          obtain ⟨ad, hp⟩ := ldv_ptr hv ha
          simp only [resOne]
          rw [hp] at hu ⊢
          simpa [Instr.loadAt, Instr.sureAddr, asAddr] using hu
        · cases hl
      · cases hl
theorem results_ok {fn : Func} (hr : resOk fn = true) {m : Mu} {S : Store} {w : World} (h : Rel m S w) {st : St} {tmps : Array Value} (ht : RelT m fn.ntmps st tmps) {Q : AV → Store → Prop} (hw : retW (resA P fn.results.toList st S) Q S) :
    ∃ v x, (results fn tmps).run P w = .ok v w ∧ Q x S ∧ RelV m x v := by
  have key : ∀ l, resA P fn.results.toList st S = some l → ∃ vs : List Value, (fn.results.mapM (resOne tmps)).run P w = .ok vs.toArray w ∧ l.length = vs.length ∧ ∀ i (hi : i < l.length), RelV m l[i] (vs.getD i undef) := by
    intro l hl
    obtain ⟨vs, h1, h2, h3⟩ := resOne_ok (P := P) h ht _ l (fun y hy => by
      have := Array.all_eq_true_iff_forall_mem.1 hr y (by simpa using hy)
      exact this) hl
    refine ⟨vs, ?_, h2, h3⟩
    rw [← Array.toArray_toList (xs := fn.results), List.mapM_toArray]
    simp only [Sem.run_map, h1]
    rfl
  rw [results_eq]
  unfold retW at hw
  split at hw
  · rename_i x hx
    obtain ⟨vs, h1, h2, h3⟩ := key [x] hx
    obtain ⟨u, rfl⟩ : ∃ u, vs = [u] := by
      match vs, h2 with
      | [u], _ => exact ⟨u, rfl⟩
    refine ⟨u, x, ?_, hw, by simpa using h3 0 (by simp)⟩
    simp only [Sem.run_bind, h1, Result.andThen_ok]
    rfl
  · rename_i l hne hl
    obtain ⟨vs, h1, h2, h3⟩ := key l hl
    refine ⟨.tuple vs.toArray, .tuple l, ?_, hw, .tuple (by simpa using h2) fun j hj => ?_⟩
    · simp only [Sem.run_bind, h1, Result.andThen_ok]
      rw [dif_neg]
      · rfl
      · intro e
        have : vs.length = 1 := by simpa using e
        rw [← h2] at this
        match l, this with
        | [x], _ => exact hne x rfl
    · have := h3 j hj
      simpa [Array.getD, List.getD, show j < vs.length by omega] using this
  · exact hw.elim
theorem run_takeDeferred {w : World} {d : Nat} (h : w.heap[d]? = some (.deferred (some []))) : (Instr.takeDeferred d).run P w = .ok [] { w with heap := w.heap.setIfInBounds d (.deferred none) } := by
  simp [Instr.takeDeferred, getObj, setObj, Sem.run, h]
theorem leave_ok {F : Fence} {fn : Func} {tmps : Array Value} {R : Ending → World → Prop} {H0 : List (Nat × Obj)} {S : Store} : ∀ (D : List Nat) (m : Mu) (w : World), Rel m S w → m.H = D.map (fun d => (d, .deferred (some []))) ++ H0 → D.Nodup → (∀ d ∈ D, ∀ o, (d, o) ∉ H0) →
    (∀ m' w', m.le m' → m'.H = H0 → Rel m' S w' → (∀ st n, RelT m n st tmps → RelT m' n st tmps) → LeavesIn F 0 P fn tmps R [] .returning w') →
    LeavesInM F 0 P fn tmps R (D.map fun d => { target := .collected d, args := #[] }) .returning w
  | [], m, w, h, hH, _, _, hk => hk m w (.refl m) hH h (fun _ _ h => h)
  | d :: D, m, w, h, hH, hn, hd, hk => by
    have hb := (h.h d (.deferred (some [])) (by rw [hH]; simp)).1
    have hz := (h.h d (.deferred (some [])) (by rw [hH]; simp)).2
    have hdn : ∀ o, (d, o) ∉ D.map (fun d => (d, Obj.deferred (some []))) ++ H0 := by
      intro o ho
      rcases List.mem_append.1 ho with ho | ho
      · obtain ⟨d', hd', e⟩ := List.mem_map.1 ho
        cases e
        exact (List.nodup_cons.1 hn).1 hd'
      · exact hd d (by simp) o ho
    have hle : m.le { m with H := D.map (fun d => (d, Obj.deferred (some []))) ++ H0 } := ⟨fun _ _ h => h, fun _ _ h => h, rfl, rfl, rfl⟩
    have hlt : d < w.heap.size := lt_of_heap hb
    have hrel : Rel { m with H := D.map (fun d => (d, Obj.deferred (some []))) ++ H0 } S { w with heap := w.heap.setIfInBounds d (.deferred none) } := by
      refine ⟨fun b o hb' => ?_, fun b o hb' => ?_, fun t o L ht hL => ?_, h.inj, fun t L hL => by simpa using h.bound t L hL, h.os, h.out, h.tape, h.fin⟩
      · have hne : b ≠ d := fun e => by subst e; rw [hz] at hb'; cases hb'
        have := h.z b o hb'
        simpa [Array.getElem?_setIfInBounds, Ne.symm hne] using this
      · have hne : b ≠ d := fun e => by subst e; exact hdn o hb'
        have := h.h b o (by rw [hH]; simp only [List.map_cons, List.cons_append, List.mem_cons]; exact .inr hb')
        exact ⟨by simpa [Array.getElem?_setIfInBounds, Ne.symm hne] using this.1, this.2⟩
      · obtain ⟨h1, h2, ob, h3, h4⟩ := h.owned t o L ht hL
        have hne : L.b ≠ d := fun e => h2 (.deferred (some [])) (by rw [hH, e]; simp)
        refine ⟨h1, fun o' ho' => h2 o' ?_, ob, by simpa [Array.getElem?_setIfInBounds, Ne.symm hne] using h3, h4.mono hle⟩
        rw [hH]; simp only [List.map_cons, List.cons_append, List.mem_cons]; exact .inr ho'
    refine ⟨by simp, .inl ⟨d, _, rfl, run_takeDeferred hb, ?_⟩⟩
    refine leave_ok D _ _ hrel rfl (List.nodup_cons.1 hn).2 (fun d' hd' => hd d' (by simp [hd'])) fun m' w' hle' hH' hrel' ht' => ?_
    exact hk m' w' (hle.trans hle') hH' hrel' fun st n h => ht' st n (h.mono hle)
theorem relT_enter {m : Mu} {n : Nat} {args : List AV} {args' : Array Value} (h : RelVs m args args') (hn : args.length ≤ n) : RelT m n (stA args) (args' ++ Array.replicate (n - args'.size) undef) := by
  refine ⟨by have := h.1; simp; omega, fun i hi => ?_⟩
  by_cases h1 : i < args.length
  · have h2 : i < args'.size := by rw [← h.1]; exact h1
    have := h.2 i h1
    have e : stA args i = args[i] := by simp [stA, h1]
    rw [e]
    have e2 : (args' ++ Array.replicate (n - args'.size) undef).getD i undef = args'.getD i undef := by
      simp only [Array.getD_eq_getD_getElem?, Array.getElem?_append, h2, if_true]
    rw [e2]; exact this
  · have e : stA args i = .poison := by simp [stA, h1]
    rw [e]; exact .poison _
theorem ATriple_body (hP : NoNG P) (hm : P.follows .mixedOrders = true) {f : FuncId} {fn : Func} {c : Code} (hf : P.funcs[f]? = some fn) (hb : fn.body = some c) {x : Ann} (ha : annOk P fn.ntmps c x = true) (hr : resOk fn = true) {args : List AV} (hn : args.length ≤ fn.ntmps) {S : Store} {Q : AV → Store → Prop}
    (hw : W P none fn.ntmps c x (retK P fn Q) (stA args) S) : ATriple P f args S Q := by
  intro m w args' hrel hargs
  refine callsIn_of_wp_marks hf hb trivial ?_
  have h1 := W_ok hP hm c x _ _ S ha hw m.H m { tmps := args' ++ Array.replicate (fn.ntmps - args'.size) undef, defers := [] } w hrel (relT_enter hargs hn) ⟨[], ⟨rfl, List.nodup_nil, fun _ h => by cases h⟩, rfl⟩
  refine wpIn_mono h1 ?_
  intro e a' w' hp
  have fin : (∃ m' st S, m.le m' ∧ Rel m' S w' ∧ RelT m' fn.ntmps st a'.tmps ∧ Dfr m.H m' a' ∧ retW (resA P fn.results.toList st S) Q S) → LeavesInM (Fw none) 0 P fn a'.tmps (fun e w' => ∃ v x S' m', e = .returned v ∧ Q x S' ∧ m.le m' ∧ m'.H = m.H ∧ Rel m' S' w' ∧ RelV m' x v) a'.defers .returning w' := by
    rintro ⟨m', st, S', hle, hrel', ht, ⟨D, ⟨d1, d2, d3⟩, d4⟩, hq⟩
    rw [d1]
    refine leave_ok D m' w' hrel' d4 d2 d3 fun m'' w'' hle' hH' hrel'' ht' => ?_
    obtain ⟨v, x, hv, hq', hr'⟩ := results_ok (P := P) hr hrel'' (ht' st _ ht) hq
    exact ⟨v, hv, v, x, S', m'', rfl, hq', hle.trans hle', hH', hrel'', hr'⟩
  cases e with
  | normal => exact fin hp
  | ret => exact fin hp
  | panic _ => exact hp.elim
  | outgrown => exact hp.elim
  | exit _ => obtain ⟨_, _, _, _, _, _, _, h⟩ := hp; exact h.elim
  | goto _ => obtain ⟨_, _, _, _, _, _, _, h⟩ := hp; exact h.elim
end
end Go.Du
namespace Go.Du
open Go
def frzOf (r : Option NewR) : Option AV :=
  match r with
  | some (.frz x) => some x
  | _ => none
def newW (r : Option NewR) (S : Store) (K : AV → Store → Prop) : Prop :=
  match r with
  | some (.own ob f) => ∀ t, S t = none → K (f t) (S.set t ob)
  | some (.frz x) => K x S
  | none => False
def boxR (fz : Bool) (t : TypeId) (x : AV) : Option NewR := if okC x then some (mkNew fz t (cellsOf x)) else none
def bslR (fz : Bool) (zs : Nat) (e : TypeId) (isz len plen : Nat) (ps : List (Nat × AV)) : Option NewR :=
  if zs = isz ∧ len * isz ≤ 16777216 ∧ plen = len ∧ 0 < isz ∧ partsOk isz 0 ps = true then some (mkRow fz e isz (ps.map fun p => cellsOf p.2)) else none
def strR (x : AV) : Option NewR :=
  match x with
  | .lit (.string s) => some (.frz (.svals (bytesAV s)))
  | _ => none
def ixA (n : Nat) (x i : AV) (S : Store) : Option AV :=
  match litInt i with
  | some k => aix n x k S
  | _ => none
def sliceS (x : AV) (lo hi : Option AV) : Option AV :=
  match x with
  | .lit (.string s) => asStr s lo hi
  | _ => none
def sliceV (n : Nat) (x : AV) (lo hi mx : Option AV) (S : Store) : Option AV :=
  match x with
  | .svals l => if l.all (fun c => c.length == n) then asl (.svals l) lo hi mx else none
  | .sref t' off len => match S t' with
    | some (.row _ sz _) => if sz = n then asl (.sref t' off len) lo hi mx else none
    | some (.rowF _ sz es) => if sz = n ∧ off = 0 ∧ len ≤ es.length then aslF es.length t' len lo hi mx else none
    | _ => none
  | .lit (.slice none 0 0) => asl (.lit (.slice none 0 0)) lo hi mx
  | .s0 => asl .s0 lo hi mx
  | _ => none
def eqQ (c : Option EqC) (neg : Bool) (op : BinOp) (x y : AV) (S : Store) : Option AV :=
  match c with
  | some c => aeqv neg c x y S
  | none => abi op x y
def cl : Code → Code
  | .seq a _ => a
  | .cond _ a _ => a
  | .block _ a => a
  | .loop a => a
  | .scope a => a
  | .rangeFunc _ _ a _ => a
  | c => c
def cr : Code → Code
  | .seq _ b => b
  | .cond _ _ b => b
  | .rangeFunc _ _ _ b => b
  | c => c
def al : Ann → Ann
  | .two a _ => a
  | .join _ a _ => a
  | .one a => a
  | a => a
def ar : Ann → Ann
  | .two _ b => b
  | .join _ _ b => b
  | a => a
theorem castP {A B : Prop} (e : A = B) (h : A) : B := e ▸ h
def resC (r : Option AV) (l : Option (List AV)) : Option (List AV) :=
  match r with
  | some v => l.map (v :: ·)
  | none => none
def effW0 (_ : Store) (_ : AV → Store → Prop) : Prop := False
def restOf (c : Code) (l : Nat) : Code := (findLabel c l).getD .skip
def bodyOf (fn : Func) : Code := fn.body.getD .skip
def Sub (S S' : Store) : Prop := ∀ t o, S t = some o → S' t = some o
theorem Sub.refl (S : Store) : Sub S S := fun _ _ h => h
theorem Sub.trans {A B C : Store} (h : Sub A B) (k : Sub B C) : Sub A C := fun t o e => k t o (h t o e)
theorem Sub.set {S S' : Store} {t : Nat} {o : AObj} (h : Sub S S') (ht : S t = none) : Sub S (S'.set t o) := by
  intro u p e
  have hne : u ≠ t := fun e' => by subst e'; rw [ht] at e; cases e
  rw [Store.set_ne _ _ _ hne]; exact h u p e
def Ent (x : AV) (S : Store) (x' : AV) (S' : Store) : Prop :=
  ∀ m w v, Rel m S w → RelV m x v → ∃ m', m.le m' ∧ m'.H = m.H ∧ Rel m' S' w ∧ RelV m' x' v
theorem Ent.refl (x : AV) (S : Store) : Ent x S x S := fun m _ _ h hv => ⟨m, .refl m, rfl, h, hv⟩
theorem Ent.trans {x y z : AV} {A B C : Store} (h : Ent x A y B) (k : Ent y B z C) : Ent x A z C := fun m w v hr hv =>
  let ⟨m1, l1, h1, r1, v1⟩ := h m w v hr hv
  let ⟨m2, l2, h2, r2, v2⟩ := k m1 w v r1 v1
  ⟨m2, l1.trans l2, h2.trans h1, r2, v2⟩
theorem Ent.drop {x : AV} {S S' : Store} (h : Sub S' S) : Ent x S x S' := fun m _ _ hr hv => ⟨m, .refl m, rfl, hr.drop h, hv⟩
def dropQ (Q : AV → Store → Prop) : AV → Store → Prop := fun x S => ∃ x' S', Ent x S x' S' ∧ Q x' S'
theorem ATriple.drop {P : Program} {f : FuncId} {args : List AV} {S : Store} {Q : AV → Store → Prop} (h : ATriple P f args S (dropQ Q)) : ATriple P f args S Q :=
  fun m w a hr hv => (h m w a hr hv).mono fun _ _ ⟨v, x, S', m', he, ⟨x', S0, hs, hq⟩, hle, hH, hrel, hv⟩ =>
    let ⟨m2, l2, h2, r2, v2⟩ := hs m' _ v hrel hv
    ⟨v, x', S0, m2, he, hq, hle.trans l2, h2.trans hH, r2, v2⟩
theorem ATriple_fn (P : Program) (hP : NoNG P) (hm : P.follows .mixedOrders = true) {f : FuncId} {fn : Func} (hf : P.funcs[f]? = some fn) (hb : fn.body.isSome = true) {x : Ann} (ha : annOk P fn.ntmps (bodyOf fn) x = true) (hr : resOk fn = true) {args : List AV} (hn : args.length ≤ fn.ntmps) {S : Store} {Q : AV → Store → Prop}
    (hw : W P none fn.ntmps (bodyOf fn) x (retK P fn (dropQ Q)) (stA args) S) : ATriple P f args S Q := by
  obtain ⟨c, hc⟩ := Option.isSome_iff_exists.1 hb
  have e : bodyOf fn = c := by simp [bodyOf, hc]
  rw [e] at ha hw
  exact .drop (ATriple_body hP hm hf hc ha hr hn hw)
end Go.Du
namespace Go.Du
open Go
noncomputable abbrev PR : Program := Go.Proofs.Tryz.prog
theorem PR_nong : NoNG PR := by
  have h : (PR.funcs.all fun f => f.name != "runtime.NumGoroutine") = true := by kernel_rfl
  intro g fn hf hn
  have := Array.all_eq_true_iff_forall_mem.1 h fn (Array.mem_of_getElem? hf)
  simp [hn] at this
theorem PR_mixed : PR.follows .mixedOrders = true := by kernel_rfl
abbrev QT := AV → Store → Prop
abbrev nilS : AV := .lit (.slice none 0 0)
def pq : Nat → Nat → Plan → Plan
  | _, 0, p => p
  | i, n + 1, p => .q i false (pq (i + 1) n p)
def rgo (e f : Nat) : Nat → Nat → Plan
  | _, 0 => .done
  | i, n + 1 => cond (Nat.testBit e i) (.e i [] (rgo e f (i + 1) n)) (.q i (Nat.testBit f i) (rgo e f (i + 1) n))
def rg (n e f : Nat) : Ann := .reg [] (rgo e f 0 n)
section
variable {f : FuncId} {fn : Func} {args : List AV} {s : Prop} {S : Store} {Q : QT} {K : AK} {st : St} {r : Option Nat} {n : Nat} {c y : Code}
noncomputable def fnChk (fn : Func) (x : Ann) (k : Nat) : Bool := fn.body.isSome && annOk PR fn.ntmps (bodyOf fn) x && resOk fn && Nat.ble k fn.ntmps
theorem pF (x : Ann) (h : s) (hf : PR.funcs[f]? = some fn := by kernel_rfl) (hc : fnChk fn x args.length = true := by kernel_rfl) (e : s = W PR none fn.ntmps (bodyOf fn) x (retK PR fn (dropQ Q)) (stA args) S := by kernel_rfl) : ATriple PR f args S Q := by
  simp only [fnChk, Bool.and_eq_true] at hc
  subst e
  exact ATriple_fn PR PR_nong PR_mixed hf hc.1.1.1 hc.1.1.2 hc.1.2 (Nat.le_of_ble_eq_true hc.2) h
theorem pJ (x : Ann) (h : s) (ha : annOk PR n c x = true := by kernel_rfl) (e : s = W PR r n c x K st S := by kernel_rfl) : AWp PR r n c K st S := W_ok PR_nong PR_mixed c x _ _ _ ha (e ▸ h)
theorem pL (x : Ann) (ml me : List Nat) (h : s) (ha : annOk PR n c x = true := by kernel_rfl) (e : s = W PR r n c x (AK.andThen (fun st S => AI PR r n [.code c, .inLoop c] K (mask ml st) S) (mskK me K)) st S := by kernel_rfl) : AI PR r n [.code c, .inLoop c] K st S :=
  loop_pt PR_nong PR_mixed (x := x) (ml := ml) (me := me) ha (e ▸ h)
theorem pS (x : Ann) (ml me : List Nat) (h : s) (ha : annOk PR n y x = true := by kernel_rfl) (e : s = W PR r n y x (AK.scopeM PR r n c ml K (mskK me K)) st S := by kernel_rfl) : AI PR r n [.code y, .inScope c] K st S :=
  scope_pt PR_nong PR_mixed (x := x) (ml := ml) (me := me) ha (e ▸ h)
end
end Go.Du
namespace Go.Du
open Go
inductive Frz (t : Nat) (elems : List (List AV)) : AV → AV → Prop where
  | refl (x : AV) : Frz t elems x x
  | sref {off len : Nat} (h : off + len ≤ elems.length) : Frz t elems (.sref t off len) (.svals ((elems.drop off).take len))
  | ptr {i off : Nat} {cs : List AV} (h : elems[i]? = some cs) : Frz t elems (.ptr t i off) (.fptr cs off)
  | nil : Frz t elems (.lit (.slice none 0 0)) (.svals [])
  | s0 : Frz t elems .s0 (.svals [])
  | agg {cs cs' : List AV} (hl : cs.length = cs'.length) (h : ∀ i (hi : i < cs.length) (hi' : i < cs'.length), Frz t elems cs[i] cs'[i]) : Frz t elems (.agg cs) (.agg cs')
  | tuple {cs cs' : List AV} (hl : cs.length = cs'.length) (h : ∀ i (hi : i < cs.length) (hi' : i < cs'.length), Frz t elems cs[i] cs'[i]) : Frz t elems (.tuple cs) (.tuple cs')
theorem Frz.cons {t : Nat} {elems : List (List AV)} {x x' : AV} {cs cs' : List AV} (h : Frz t elems x x') (k : cs.length = cs'.length ∧ ∀ i (hi : i < cs.length) (hi' : i < cs'.length), Frz t elems cs[i] cs'[i]) :
    (x :: cs).length = (x' :: cs').length ∧ ∀ i (hi : i < (x :: cs).length) (hi' : i < (x' :: cs').length), Frz t elems (x :: cs)[i] (x' :: cs')[i] :=
  ⟨by simp [k.1], fun i hi hi' => by
    cases i with
    | zero => exact h
    | succ i => exact k.2 i (by simpa using hi) (by simpa using hi')⟩
inductive FrzL (t : Nat) (elems : List (List AV)) : List AV → List AV → Prop where
  | nil : FrzL t elems [] []
  | cons {x x' : AV} {l l' : List AV} (h : Frz t elems x x') (k : FrzL t elems l l') : FrzL t elems (x :: l) (x' :: l')
theorem FrzL.pts {t : Nat} {elems : List (List AV)} {l l' : List AV} (h : FrzL t elems l l') : l.length = l'.length ∧ ∀ i (hi : i < l.length) (hi' : i < l'.length), Frz t elems l[i] l'[i] := by
  induction h with
  | nil => exact ⟨rfl, fun i hi => absurd hi (Nat.not_lt_zero _)⟩
  | cons h k ih => exact Frz.cons h ih
theorem FrzL.tuple {t : Nat} {elems : List (List AV)} {l l' : List AV} (h : FrzL t elems l l') : Frz t elems (.tuple l) (.tuple l') := .tuple h.pts.1 h.pts.2
theorem FrzL.agg {t : Nat} {elems : List (List AV)} {l l' : List AV} (h : FrzL t elems l l') : Frz t elems (.agg l) (.agg l') := .agg h.pts.1 h.pts.2
theorem FrzL.refl (t : Nat) (elems : List (List AV)) : ∀ l, FrzL t elems l l
  | [] => .nil
  | x :: l => .cons (.refl x) (FrzL.refl t elems l)
inductive FrzO (t : Nat) (elems : List (List AV)) : AObj → AObj → Prop where
  | refl (o : AObj) : FrzO t elems o o
  | row {ty sz : Nat} {es es' : List (List AV)} (hl : es.length = es'.length) (h : ∀ i (hi : i < es.length) (hi' : i < es'.length), es[i].length = es'[i].length ∧ ∀ j (hj : j < es[i].length) (hj' : j < es'[i].length), Frz t elems es[i][j] es'[i][j]) : FrzO t elems (.row ty sz es) (.row ty sz es')
  | map {es es' : List (Value × AV)} (hl : es.length = es'.length) (h : ∀ i (hi : i < es.length) (hi' : i < es'.length), es[i].1 = es'[i].1 ∧ Frz t elems es[i].2 es'[i].2) : FrzO t elems (.map es) (.map es')
section
variable {m m' : Mu} {t : Nat} {elems : List (List AV)}
def HoldsAt (m' : Mu) (m : Mu) (t : Nat) (elems : List (List AV)) : Prop :=
  ∀ L, m.loc t = some L → ∃ cur ty, m'.Z L.b = some (.cells cur ty (0, 0)) ∧ RowOk m' ty L.sz L.cap elems cur
theorem RowOk.at {ty sz cap : Nat} {cur : Array Value} (h : RowOk m ty sz cap elems cur) {i j : Nat} (hi : i < elems.length) (hj : j < sz) : cur[i * sz + j]? = some (cur.getD (i * sz + j) undef) ∧ (cur.getD (i * sz + j) undef).oneCell' = true := by
  have hlt : i * sz + j < cur.size := by
    rw [h.size]
    have : i + 1 ≤ cap := by have := h.le; omega
    have := Nat.mul_le_mul_right sz this
    rw [Nat.add_mul] at this; omega
  have e := getD_getElem? (d := undef) hlt
  exact ⟨e, h.one _ _ e⟩
theorem Frz.rel (hle : m.le m') (hh : HoldsAt m' m t elems) {x x' : AV} {v : Value} (hf : Frz t elems x x') (h : RelV m x v) : RelV m' x' v := by
  induction hf generalizing v with
  | refl x => exact h.mono hle
  | sref hb =>
    rename_i off len
    cases h with
    | sref hL hc =>
      rename_i L
      obtain ⟨cur, ty, hz, hrow⟩ := hh L hL
      have hlen : ((elems.drop off).take len).length = len := by simp; omega
      have := RelV.svals (m := m') (l := (elems.drop off).take len) (o := off * L.sz) (sz := L.sz) (c := L.cap - off) hz (fun y hy => hrow.len y (List.mem_of_mem_drop (List.mem_of_mem_take hy)))
        (fun i j => cur.getD ((off + i) * L.sz + j) undef) (fun i j hi hj => by
          rw [hlen] at hi
          have := (hrow.at (i := off + i) (by omega) hj).1
          rw [show off * L.sz + i * L.sz + j = (off + i) * L.sz + j by rw [Nat.add_mul]]; exact this)
        (fun i j hi hj => by rw [hlen] at hi; exact (hrow.at (i := off + i) (by omega) hj).2)
        (fun i hi j hj => by
          have e : ((elems.drop off).take len)[i]'hi = elems[off + i]'(by rw [hlen] at hi; omega) := by simp
          have := hrow.rel (off + i) (by rw [hlen] at hi; omega) j (by rw [← e]; exact hj)
          simpa using this) (by rw [hlen]; omega)
      rw [hlen] at this
      exact this
  | ptr hi =>
    rename_i i off cs
    cases h with
    | ptr hL =>
      rename_i L
      obtain ⟨cur, ty, hz, hrow⟩ := hh L hL
      obtain ⟨hlt, rfl⟩ := List.getElem?_eq_some_iff.1 hi
      have hcl := hrow.len _ (List.getElem_mem hlt)
      exact RelV.fptr (m := m') (cs := elems[i]) (o := i * L.sz) hz (fun j => cur.getD (i * L.sz + j) undef) (fun j hj => (hrow.at hlt (by omega)).1) (fun j hj => (hrow.at hlt (by omega)).2) (fun j hj => hrow.rel i hlt j hj)
  | nil => have := h.lit_inv; subst this; exact .sempty _ _
  | s0 => cases h; exact .sempty _ _
  | agg hl hc ih =>
    cases h with
    | agg hl' h1 r => exact .agg (by omega) (fun j hj => h1 j (by omega)) fun j hj => ih j (by omega) hj (r j (by omega))
  | tuple hl hc ih =>
    cases h with
    | tuple hl' r => exact .tuple (by omega) fun j hj => ih j (by omega) hj (r j (by omega))
theorem FrzO.rel (hle : m.le m') (hh : HoldsAt m' m t elems) {L : Loc} {o o' : AObj} {ob : Obj} (hf : FrzO t elems o o') (h : ObjOk m L o ob) : ObjOk m' L o' ob := by
  cases hf with
  | refl => exact h.mono hle
  | row hl hc =>
    cases h with
    | row hs hr =>
      refine .row hs ⟨hr.size, by rw [← hl]; exact hr.le, hr.capLe, fun x hx => ?_, hr.one, fun i hi j hj => ?_⟩
      · obtain ⟨i, hi, rfl⟩ := List.mem_iff_getElem.1 hx
        rw [← (hc i (by omega) hi).1]; exact hr.len _ (List.getElem_mem _)
      · have hi' : i < _ := hl ▸ hi
        have := hc i hi' hi
        exact (this.2 j (by omega) hj).rel hle hh (hr.rel i hi' j (by omega))
  | map hl hc =>
    cases h with
    | map h1 h2 h3 h4 =>
      refine .map (by omega) h2 h3 fun i hi => ?_
      obtain ⟨e, he, hk, hv⟩ := h4 i (by omega)
      have := hc i (by omega) hi
      exact ⟨e, he, hk.trans this.1, this.2.rel hle hh hv⟩
end
theorem Ent.freeze {S S' : Store} {t : Nat} {ty sz : Nat} {elems : List (List AV)} {x x' : AV} (ht : S t = some (.row ty sz elems)) (hx : Frz t elems x x')
    (hS : ∀ u o', S' u = some o' → u ≠ t ∧ ∃ o, S u = some o ∧ FrzO t elems o o') : Ent x S x' S' := by
  intro m w v hr hv
  cases hL : m.loc t with
  | none =>
    have hh : HoldsAt m m t elems := fun L h => by rw [hL] at h; cases h
    refine ⟨m, .refl m, rfl, ?_, hx.rel (.refl m) hh hv⟩
    refine ⟨hr.z, hr.h, fun u o L ho hLu => ?_, fun u u' L L' hu hu' => ?_, hr.bound, hr.os, hr.out, hr.tape, ?_⟩
    · obtain ⟨_, o0, h0, hf⟩ := hS u o ho
      obtain ⟨g1, g2, ob, g3, g4⟩ := hr.owned u o0 L h0 hLu
      exact ⟨g1, g2, ob, g3, hf.rel (.refl m) hh g4⟩
    · refine hr.inj u u' L L' ?_ ?_
      · cases e : S' u with
        | none => exact absurd e hu
        | some o => obtain ⟨_, o0, h0, _⟩ := hS u o e; rw [h0]; simp
      · cases e : S' u' with
        | none => exact absurd e hu'
        | some o => obtain ⟨_, o0, h0, _⟩ := hS u' o e; rw [h0]; simp
    · obtain ⟨N, hN⟩ := hr.fin
      refine ⟨N, fun u hu => ⟨(hN u hu).1, ?_⟩⟩
      cases e : S' u with
      | none => rfl
      | some o => obtain ⟨_, o0, h0, _⟩ := hS u o e; rw [(hN u hu).2] at h0; cases h0
  | some L =>
    obtain ⟨hz, hHn, ob, hb, hob⟩ := hr.owned t _ L ht hL
    cases hob with
    | row hs hrow =>
      rename_i cur
      have hle : m.le (m.freeze L.b (.cells cur ty (0, 0))) := Mu.le_freeze hz
      have hh : HoldsAt (m.freeze L.b (.cells cur ty (0, 0))) m t elems := fun L' h' => by
        rw [hL] at h'
        simp only [Option.some.injEq] at h'
        subst h'
        exact ⟨cur, ty, by simp [Mu.freeze], by rw [hs]; exact hrow.mono hle⟩
      refine ⟨_, hle, rfl, ?_, hx.rel hle hh hv⟩
      refine ⟨fun b o hbo => ?_, fun b o hbo => ?_, fun u o L' ho hLu => ?_, fun u u' L1 L2 hu hu' => ?_, hr.bound, hr.os, hr.out, hr.tape, ?_⟩
      · simp only [Mu.freeze] at hbo
        split at hbo
        · rename_i e; simp only [Option.some.injEq] at hbo; subst hbo; rw [e]; exact hb
        · exact hr.z b o hbo
      · have := hr.h b o hbo
        refine ⟨this.1, ?_⟩
        have hne : b ≠ L.b := fun e => hHn o (e ▸ hbo)
        simp only [Mu.freeze]; rw [if_neg hne]; exact this.2
      · obtain ⟨hne, o0, h0, hf⟩ := hS u o ho
        obtain ⟨g1, g2, ob', g3, g4⟩ := hr.owned u o0 L' h0 hLu
        have hnb : L'.b ≠ L.b := fun e => hne (hr.inj u t L' L (by rw [h0]; simp) (by rw [ht]; simp) hLu hL e)
        refine ⟨?_, g2, ob', g3, hf.rel hle hh g4⟩
        simp only [Mu.freeze]; rw [if_neg hnb]; exact g1
      · refine hr.inj u u' L1 L2 ?_ ?_
        · cases e : S' u with
          | none => exact absurd e hu
          | some o => obtain ⟨_, o0, h0, _⟩ := hS u o e; rw [h0]; simp
        · cases e : S' u' with
          | none => exact absurd e hu'
          | some o => obtain ⟨_, o0, h0, _⟩ := hS u' o e; rw [h0]; simp
      · obtain ⟨N, hN⟩ := hr.fin
        refine ⟨N, fun u hu => ⟨(hN u hu).1, ?_⟩⟩
        cases e : S' u with
        | none => rfl
        | some o => obtain ⟨_, o0, h0, _⟩ := hS u o e; rw [(hN u hu).2] at h0; cases h0
theorem Ent.val {x x' : AV} {S : Store} (hx : ∀ t elems, Frz t elems x x' ) (_ : Nat) : Ent x S x' S := by
  intro m w v hr hv
  obtain ⟨t, h1, h2⟩ := hr.fresh
  exact ⟨m, .refl m, rfl, hr, (hx t []).rel (.refl m) (fun L h => by rw [h1] at h; cases h) hv⟩
theorem Ent.listC {S : Store} {t ty sz n : Nat} {elems : List (List AV)} (C : AV → AV) (hC : ∀ t elems a b, Frz t elems a b → Frz t elems (C a) (C b)) (ht : S t = none) (hn : n = elems.length) : Ent (C (.sref t 0 n)) (S.set t (.row ty sz elems)) (C (.svals elems)) S := by
  refine Ent.freeze (t := t) (Store.set_same S t (.row ty sz elems)) ?_ fun u o' hu => ?_
  · have := Frz.sref (t := t) (elems := elems) (off := 0) (len := n) (by omega)
    rw [hn] at this ⊢
    refine hC _ _ _ _ ?_
    simpa using this
  · have hne : u ≠ t := fun e => by subst e; rw [ht] at hu; cases hu
    exact ⟨hne, o', by rw [Store.set_ne _ _ _ hne]; exact hu, .refl _⟩
theorem Ent.list {S : Store} {t ty sz n : Nat} {elems : List (List AV)} (ht : S t = none) (hn : n = elems.length) : Ent (.sref t 0 n) (S.set t (.row ty sz elems)) (.svals elems) S := by
  refine Ent.freeze (t := t) (Store.set_same S t (.row ty sz elems)) ?_ fun u o' hu => ?_
  · have := Frz.sref (t := t) (elems := elems) (off := 0) (len := n) (by omega)
    rw [hn] at this ⊢
    simpa using this
  · have hne : u ≠ t := fun e => by subst e; rw [ht] at hu; cases hu
    exact ⟨hne, o', by rw [Store.set_ne _ _ _ hne]; exact hu, .refl _⟩
end Go.Du
namespace Go.Du
open Go
abbrev iv (n : Int) : AV := .lit (.int .i64 n)
abbrev uv (n : Int) : AV := .lit (.int .u8 n)
abbrev bv (b : Bool) : AV := .lit (.bool b)
abbrev Bs := List UInt8
abbrev sb (l : Bs) : ByteArray := ⟨l.toArray⟩
abbrev sv (l : Bs) : AV := .lit (.string (sb l))
@[simp] theorem sb_toList (l : Bs) : (sb l).toList = l := by rw [ByteArray.toList_eq]
@[simp] theorem sb_size (l : Bs) : (sb l).size = l.length := by simp [sb, ByteArray.size]
theorem sb_append (a b : Bs) : sb a ++ sb b = sb (a ++ b) := by
  apply ByteArray.ext; simp
@[simp] theorem bQ_some (v : AV) (k : AV → Prop) : bQ (some v) k = k v := rfl
@[simp] theorem bQ_none (k : AV → Prop) : bQ none k = False := rfl
@[simp] theorem condW_bv (b : Bool) (A B : Prop) : condW (bv b) A B = if b = true then A else B := rfl
@[simp] theorem gdW_bv (b w : Bool) (A B : Prop) : gdW (bv b) w A B = if b = w then A else B := rfl
@[simp] theorem gdQ_bv (b w : Bool) (r : Option AV) (k : AV → Prop) : gdQ (bv b) w r k = if b = w then bQ r k else k undefA := rfl
@[simp] theorem gdE_bv (b w : Bool) (ev : (AV → Store → Prop) → Prop) (S : Store) (k : AV → Store → Prop) : gdE (bv b) w ev S k = if b = w then ev k else k undefA S := rfl
@[simp] theorem gdQ_undef (w : Bool) (r : Option AV) (k : AV → Prop) : gdQ undefA w r k = k undefA := rfl
@[simp] theorem gdE_undef (w : Bool) (ev : (AV → Store → Prop) → Prop) (S : Store) (k : AV → Store → Prop) : gdE undefA w ev S k = k undefA S := rfl
@[simp] theorem gdW_undef (w : Bool) (A B : Prop) : gdW undefA w A B = B := rfl
@[simp] theorem aext_tuple (l : List AV) (i : Nat) : aext (.tuple l) i = l[i]? := rfl
@[simp] theorem resC_some (v : AV) (l : Option (List AV)) : resC (some v) l = l.map (v :: ·) := rfl
@[simp] theorem retW_one (x : AV) (Q : AV → Store → Prop) (S : Store) : retW (some [x]) Q S = Q x S := rfl
@[simp] theorem retW_two (x y : AV) (l : List AV) (Q : AV → Store → Prop) (S : Store) : retW (some (x :: y :: l)) Q S = Q (.tuple (x :: y :: l)) S := rfl
theorem ldv_ptr1 (ag : Bool) (sz t i o : Nat) (S : Store) {ty z : Nat} {es : List (List AV)} {cs : List AV} (h : S t = some (.row ty z es)) (hc : es[i]? = some cs) : ldv ag sz (.ptr t i o) S = ldc ag sz cs o := by simp [ldv, h, hc]
theorem stv_ptr1 (sz t i o : Nat) (x : AV) (S : Store) {ty z : Nat} {es : List (List AV)} {cs : List AV} (h : S t = some (.row ty z es)) (hc : es[i]? = some cs) (hx : okC x = true) (hl : (cellsOf x).length = sz) (hb : o + sz ≤ cs.length) :
    stv sz (.ptr t i o) x S = some (S.set t (.row ty z (es.set i (splice cs o (cellsOf x))))) := by simp [stv, h, hc, hx, hl, hb]
@[simp] theorem okC_lit (v : Value) : okC (.lit v) = true := rfl
@[simp] theorem okC_agg (l : List AV) : okC (.agg l) = true := rfl
@[simp] theorem okC_svals (l : List (List AV)) : okC (.svals l) = true := rfl
@[simp] theorem okC_ptr (a b c : Nat) : okC (.ptr a b c) = true := rfl
@[simp] theorem okC_sref (a b c : Nat) : okC (.sref a b c) = true := rfl
@[simp] theorem cellsOf_lit (v : Value) : cellsOf (.lit v) = [.lit v] := rfl
@[simp] theorem cellsOf_agg (l : List AV) : cellsOf (.agg l) = l := rfl
@[simp] theorem cellsOf_svals (l : List (List AV)) : cellsOf (.svals l) = [.svals l] := rfl
@[simp] theorem cellsOf_ptr (a b c : Nat) : cellsOf (.ptr a b c) = [.ptr a b c] := rfl
@[simp] theorem cellsOf_sref (a b c : Nat) : cellsOf (.sref a b c) = [.sref a b c] := rfl
@[simp] theorem thenS_some (S : Store) (K : AV → Store → Prop) : thenS (some S) K = K undefA S := rfl
@[simp] theorem thenS_none (K : AV → Store → Prop) : thenS none K = False := rfl
@[simp] theorem newW_own (ob : AObj) (f : Nat → AV) (S : Store) (K : AV → Store → Prop) : newW (some (.own ob f)) S K = ∀ t, S t = none → K (f t) (S.set t ob) := rfl
@[simp] theorem newW_frz (x : AV) (S : Store) (K : AV → Store → Prop) : newW (some (.frz x)) S K = K x S := rfl
@[simp] theorem frzOf_frz (x : AV) : frzOf (some (.frz x)) = some x := rfl
section
variable (a b : Int)
@[simp] theorem abi_add : abi .add (iv a) (iv b) = some (iv (IntKind.i64.wrap (a + b))) := rfl
@[simp] theorem abi_sub : abi .sub (iv a) (iv b) = some (iv (IntKind.i64.wrap (a - b))) := rfl
@[simp] theorem abi_mul : abi .mul (iv a) (iv b) = some (iv (IntKind.i64.wrap (a * b))) := rfl
@[simp] theorem abi_eql : abi .eql (iv a) (iv b) = some (bv (a == b)) := rfl
@[simp] theorem abi_neq : abi .neq (iv a) (iv b) = some (bv (a != b)) := rfl
@[simp] theorem abi_lss : abi .lss (iv a) (iv b) = some (bv (decide (a < b))) := rfl
@[simp] theorem abi_leq : abi .leq (iv a) (iv b) = some (bv (decide (a ≤ b))) := rfl
@[simp] theorem abi_gtr : abi .gtr (iv a) (iv b) = some (bv (decide (a > b))) := rfl
@[simp] theorem abi_geq : abi .geq (iv a) (iv b) = some (bv (decide (a ≥ b))) := rfl
@[simp] theorem abi_eql8 : abi .eql (uv a) (uv b) = some (bv (a == b)) := rfl
@[simp] theorem abi_neq8 : abi .neq (uv a) (uv b) = some (bv (a != b)) := rfl
@[simp] theorem abi_lss8 : abi .lss (uv a) (uv b) = some (bv (decide (a < b))) := rfl
@[simp] theorem abi_leq8 : abi .leq (uv a) (uv b) = some (bv (decide (a ≤ b))) := rfl
@[simp] theorem abi_gtr8 : abi .gtr (uv a) (uv b) = some (bv (decide (a > b))) := rfl
@[simp] theorem abi_geq8 : abi .geq (uv a) (uv b) = some (bv (decide (a ≥ b))) := rfl
end
section
variable (a b : Bs)
@[simp] theorem abi_seql : abi .eql (sv a) (sv b) = some (bv (a == b)) := by simp [abi, biv, biStr]
@[simp] theorem abi_sneq : abi .neq (sv a) (sv b) = some (bv (!(a == b))) := by simp [abi, biv, biStr]
@[simp] theorem abi_slss : abi .lss (sv a) (sv b) = some (bv (Op.bytesLess a b)) := by simp [abi, biv, biStr]
@[simp] theorem abi_sgtr : abi .gtr (sv a) (sv b) = some (bv (!(Op.bytesLess a b || a == b))) := by simp [abi, biv, biStr]
@[simp] theorem abi_sleq : abi .leq (sv a) (sv b) = some (bv (Op.bytesLess a b || a == b)) := by simp [abi, biv, biStr]
@[simp] theorem abi_sgeq : abi .geq (sv a) (sv b) = some (bv (!(Op.bytesLess a b))) := by simp [abi, biv, biStr]
end
@[simp] theorem aun_not (b : Bool) : aun .not (bv b) = some (bv (!b)) := rfl
@[simp] theorem apick_bv (t : Bool) (x y : AV) : apick (bv t) x y = some (if t = true then x else y) := rfl
@[simp] theorem padd_fptr (cs : List AV) (o n : Nat) : padd (.fptr cs o) n = some (.fptr cs (o + n)) := rfl
@[simp] theorem padd_ptr (t i o n : Nat) : padd (.ptr t i o) n = some (.ptr t i (o + n)) := rfl
@[simp] theorem boxR_agg (fz : Bool) (t : TypeId) (cs : List AV) : boxR fz t (.agg cs) = some (mkNew fz t cs) := rfl
@[simp] theorem boxR_lit (fz : Bool) (t : TypeId) (v : Value) : boxR fz t (.lit v) = some (mkNew fz t [.lit v]) := rfl
@[simp] theorem boxR_svals (fz : Bool) (t : TypeId) (l : List (List AV)) : boxR fz t (.svals l) = some (mkNew fz t [.svals l]) := rfl
@[simp] theorem boxR_ptr (fz : Bool) (t a b c : Nat) : boxR fz t (.ptr a b c) = some (mkNew fz t [.ptr a b c]) := rfl
@[simp] theorem boxR_func (fz : Bool) (t : Nat) (f : Fn) (a b : List AV) : boxR fz t (.func f a b) = some (mkNew fz t [.func f a b]) := rfl
@[simp] theorem mkNew_true (t : TypeId) (cs : List AV) : mkNew true t cs = .frz (.fptr cs 0) := rfl
@[simp] theorem mkNew_false (t : TypeId) (cs : List AV) : mkNew false t cs = .own (.row t cs.length [cs]) fun u => .ptr u 0 0 := rfl
@[simp] theorem ldv_fptr (ag : Bool) (sz : Nat) (cs : List AV) (o : Nat) (S : Store) : ldv ag sz (.fptr cs o) S = ldc ag sz cs o := rfl
@[simp] theorem ldc_false (sz : Nat) (cs : List AV) (o : Nat) : ldc false sz cs o = cs[o]? := rfl
@[simp] theorem ldc_true (sz : Nat) (cs : List AV) (o : Nat) : ldc true sz cs o = if o + sz ≤ cs.length then some (.agg ((cs.drop o).take sz)) else none := rfl
@[simp] theorem aln_str (l : Bs) (S : Store) : aln .str (sv l) S = some (iv l.length) := by simp [aln]
@[simp] theorem aln_svals (l : List (List AV)) (S : Store) : aln .slice (.svals l) S = some (iv l.length) := rfl
@[simp] theorem aln_sref (t o n : Nat) (S : Store) : aln .slice (.sref t o n) S = some (iv n) := rfl
@[simp] theorem aln_nil (S : Store) : aln .slice (.lit (.slice none 0 0)) S = some (iv 0) := rfl
@[simp] theorem aln_s0 (S : Store) : aln .slice .s0 S = some (iv 0) := rfl
theorem wrap_id {n : Int} (h1 : -9223372036854775808 ≤ n) (h2 : n ≤ 9223372036854775807) : IntKind.i64.wrap n = n := by
  exact IntWalk.i64_in n ⟨h1, h2⟩
theorem ixA_map {α : Type} (f : α → List AV) (l : List α) (i : Nat) (sz : Nat) (S : Store) (h : i < l.length) (hs : ∀ x, (f x).length = sz) : ixA sz (.svals (l.map f)) (iv i) S = some (.fptr (f l[i]) 0) := by
  simp [ixA, litInt, aix, h, hs]
theorem ldv_all {cs : List AV} {sz : Nat} (S : Store) (h : cs.length = sz) : ldv true sz (.fptr cs 0) S = some (.agg cs) := by
  subst h; simp
theorem beqD {α : Type} [BEq α] [LawfulBEq α] [DecidableEq α] (a b : α) : (a == b) = decide (a = b) := by by_cases h : a = b <;> simp [h]
theorem dropQ_self {Q : AV → Store → Prop} {x : AV} {S : Store} (h : Q x S) : dropQ Q x S := ⟨x, S, .refl x S, h⟩
end Go.Du
namespace Go.Du
open Go
inductive Grow (e sz : Nat) (S0 : Store) : List (List AV) → AV → Store → Prop where
  | nil : Grow e sz S0 [] (.lit (.slice none 0 0)) S0
  | own {es : List (List AV)} {t : Nat} (h : S0 t = none) : Grow e sz S0 es (.sref t 0 es.length) (S0.set t (.row e sz es))
section
variable {e sz bytes : Nat} {S0 S : Store} {es l : List (List AV)} {v x : AV} {K : AV → Store → Prop}
theorem Grow.len (h : Grow e sz S0 es v S) : aln .slice v S = some (iv es.length) := by cases h <;> rfl
theorem Grow.rd (h : Grow e sz S0 es v S) : rdS v S = some es := by
  cases h with
  | nil => rfl
  | own ht => simp [rdS]
theorem Grow.ent (h : Grow e sz S0 es v S) : Ent v S (.svals es) S0 := by
  cases h with
  | nil => exact Ent.val (fun _ _ => .nil) 0
  | own ht => exact Ent.list ht rfl
theorem Grow.entC (h : Grow e sz S0 es v S) (C : AV → AV) (hC : ∀ t elems a b, Frz t elems a b → Frz t elems (C a) (C b)) : Ent (C v) S (C (.svals es)) S0 := by
  cases h with
  | nil => exact Ent.val (fun t elems => hC t elems _ _ .nil) 0
  | own ht => exact Ent.listC C hC ht rfl
theorem Grow.sub (h : Grow e sz S0 es v S) : Sub S0 S := by
  cases h with
  | nil => exact .refl _
  | own ht => exact (Sub.refl _).set ht
theorem Grow.app {k : KindT} (h : Grow e sz S0 es v S) (hs : apSrc k sz x S = some l) (hl : ∀ c ∈ l, c.length = sz) (hb : (es.length + l.length) * bytes ≤ 140737488355328) (hn : es.length + l.length ≤ 9223372036854775807)
    (hk : ∀ v' S', Grow e sz S0 (es ++ l) v' S' → K v' S') : apW (some (e, sz, bytes, k)) v x S K := by
  simp only [apW, hs, apK]
  refine ⟨hl, ?_⟩
  cases h with
  | nil =>
    simp only [List.length_nil, Nat.zero_add] at hb hn
    refine ⟨hb, hn, fun e => ?_, fun _ t ht => ?_⟩
    · subst e; exact hk _ _ .nil
    · exact hk _ _ (.own ht)
  | own ht =>
    rename_i t
    simp only [Store.set_same, Nat.zero_add, if_true, true_and]
    refine ⟨hb, hn, fun t' ht' => ?_⟩
    rw [Store.erase_set _ _ _ ht] at ht' ⊢
    have := Grow.own (e := e) (sz := sz) (es := es ++ l) ht'
    rw [List.length_append] at this
    exact hk _ _ this
end
theorem Store.set_comm (S : Store) {t u : Nat} (h : t ≠ u) (o o' : AObj) : (S.set t o).set u o' = (S.set u o').set t o := by
  funext x
  by_cases e1 : x = t
  · subst e1; rw [Store.set_ne _ _ _ h, Store.set_same, Store.set_same]
  · by_cases e2 : x = u
    · subst e2; rw [Store.set_same, Store.set_ne _ _ _ e1, Store.set_same]
    · rw [Store.set_ne _ _ _ e2, Store.set_ne _ _ _ e1, Store.set_ne _ _ _ e1, Store.set_ne _ _ _ e2]
theorem Grow.swap {e sz e' sz' : Nat} {S0 Sa S : Store} {es es' : List (List AV)} {v v' : AV} (h : Grow e sz S0 es v Sa) (k : Grow e' sz' Sa es' v' S) : ∃ S0', Sub S0 S0' ∧ Grow e sz S0' es v S := by
  cases k with
  | nil => exact ⟨S0, .refl _, h⟩
  | own ht =>
    rename_i t
    cases h with
    | nil => exact ⟨_, (Sub.refl _).set ht, .nil⟩
    | own hu =>
      rename_i u
      have hne : t ≠ u := fun e => by subst e; simp at ht
      have ht' : S0 t = none := by rwa [Store.set_ne _ _ _ hne] at ht
      refine ⟨S0.set t (.row e' sz' es'), (Sub.refl _).set ht', ?_⟩
      rw [Store.set_comm _ hne.symm]
      exact .own (by rw [Store.set_ne _ _ _ hne.symm]; exact hu)
abbrev byt (l : Bs) : List (List AV) := l.map fun b => [uv b.toNat]
abbrev bytes (l : Bs) : AV := .svals (byt l)
theorem bytesAV_sb (l : Bs) : bytesAV (sb l) = byt l := by simp [bytesAV]
@[simp] theorem strR_sv (l : Bs) : strR (sv l) = some (.frz (bytes l)) := by simp [strR, bytesAV_sb]
theorem ixA_bytes (l : Bs) (i : Nat) (S : Store) (h : i < l.length) : ixA 1 (bytes l) (iv i) S = some (.fptr [uv l[i].toNat] 0) := ixA_map _ l i 1 S h fun _ => rfl
theorem ixA_bytesI (l : Bs) (i : Int) (S : Store) (h0 : 0 ≤ i) (h : i < l.length) : ixA 1 (bytes l) (iv i) S = some (.fptr [uv (l.getD i.toNat 0).toNat] 0) := by
  obtain ⟨k, rfl⟩ := Int.eq_ofNat_of_zero_le h0
  rw [ixA_bytes l k S (by omega)]
  simp [List.getD, show k < l.length by omega]
theorem aixS_sv (l : Bs) (i : Nat) (h : i < l.length) : aixS (sv l) (iv i) = some (uv l[i].toNat) := by
  simp [aixS, h, List.getD]
theorem mapM_byt (l : Bs) : bytesOf (byt l) = some l := by
  unfold bytesOf
  induction l with
  | nil => rfl
  | cons b l ih => simp only [byt, List.map_cons, List.mapM_cons, byteAV] at ih ⊢; rw [ih]; simp
theorem acv_byt {S : Store} {v : AV} {l : Bs} (h : rdS v S = some (byt l)) : acv .bytes v S = some (sv l) := by simp [acv, acvB, h, mapM_byt]
theorem sliceV_map {α : Type} (f : α → List AV) (l : List α) (a b sz : Nat) (S : Store) (h1 : a ≤ b) (h2 : b ≤ l.length) (hs : ∀ x, (f x).length = sz) :
    sliceV sz (.svals (l.map f)) (some (iv a)) (some (iv b)) none S = some (.svals (((l.drop a).take (b - a)).map f)) := by
  have : ((l.map f).all fun c => c.length == sz) = true := by simp [hs]
  simp [sliceV, hs, asl, bnds, bnd, h1, h2, List.map_drop, List.map_take]
theorem sliceV_lo {α : Type} (f : α → List AV) (l : List α) (a sz : Nat) (S : Store) (h1 : a ≤ l.length) (hs : ∀ x, (f x).length = sz) :
    sliceV sz (.svals (l.map f)) (some (iv a)) none none S = some (.svals ((l.drop a).map f)) := by
  simp [sliceV, hs, asl, bnds, bnd, h1, List.map_drop]
  rw [List.take_of_length_le (by simp)]
theorem sliceV_hi {α : Type} (f : α → List AV) (l : List α) (b sz : Nat) (S : Store) (h2 : b ≤ l.length) (hs : ∀ x, (f x).length = sz) :
    sliceV sz (.svals (l.map f)) none (some (iv b)) none S = some (.svals ((l.take b).map f)) := by
  simp [sliceV, hs, asl, bnds, bnd, h2, List.map_take]
@[simp] theorem bsl_one (e sz : Nat) (x : AV) (zs : Nat) (h : zs = sz ∧ sz ≤ 16777216 ∧ 0 < sz ∧ okC x = true ∧ (cellsOf x).length = sz) : frzOf (bslR true zs e sz 1 1 [(0, x)]) = some (.svals [cellsOf x]) := by
  obtain ⟨h1, h2, h3, h4, h5⟩ := h
  simp [bslR, partsOk, h1, h2, h3, h4, h5, mkRow]
end Go.Du
namespace Go.Du
open Go
def EntT (n : Nat) (st : St) (S : Store) (st' : St) (S' : Store) : Prop :=
  ∀ m w a, Rel m S w → RelT m n st a → ∃ m', m.le m' ∧ m'.H = m.H ∧ Rel m' S' w ∧ RelT m' n st' a
def clo (n : Nat) (K : AK) : AK := fun e st S => ∃ st' S', EntT n st S st' S' ∧ K e st' S'
theorem AI_clo {P : Program} {r : Option Nat} {n : Nat} {xs : List Item} {K : AK} {st : St} {S : Store} (h : AI P r n xs (clo n K) st S) : AI P r n xs K st S := by
  intro H0 m a w h1 h2 h3
  refine itemsIn_mono (h H0 m a w h1 h2 h3) ?_
  intro e a w hp
  cases e <;> first | exact hp.elim | (
    obtain ⟨m', st', S', g1, g2, g3, g4, st2, S2, g5, g6⟩ := hp
    obtain ⟨m2, k1, k2, k3, k4⟩ := g5 m' w a.tmps g2 g3
    refine ⟨m2, st2, S2, g1.trans k1, k3, k4, ?_, g6⟩
    obtain ⟨D, d1, d2⟩ := g4
    exact ⟨D, d1, by rw [k2]; exact d2⟩)
theorem AI_ent {P : Program} {r : Option Nat} {n : Nat} {xs : List Item} {K : AK} {st st' : St} {S S' : Store} (he : EntT n st S st' S') (h : AI P r n xs K st' S') : AI P r n xs K st S := by
  intro H0 m a w h1 h2 h3
  obtain ⟨m2, k1, k2, k3, k4⟩ := he m w a.tmps h1 h2
  refine itemsIn_mono (h H0 m2 a w k3 k4 ?_) (post_le k1)
  obtain ⟨D, d1, d2⟩ := h3
  exact ⟨D, d1, by rw [k2]; exact d2⟩
theorem ofL_out : ∀ (ks : List Nat) (vs : List AV) (i : Nat), i ∉ ks → ofL (ks.zip vs) i = .poison
  | [], _, _, _ => by simp [ofL]
  | _ :: _, [], _, _ => by simp [ofL]
  | k :: ks, v :: vs, i, h => by
    simp only [List.mem_cons, not_or] at h
    simp only [List.zip_cons_cons, ofL, if_neg h.1]
    exact ofL_out ks vs i h.2
theorem ofL_in : ∀ (ks : List Nat) (vs : List AV), ks.Nodup → ks.length = vs.length → ∀ j (h : j < ks.length) (h' : j < vs.length), ofL (ks.zip vs) ks[j] = vs[j]
  | [], _, _, _, j, h, _ => absurd h (Nat.not_lt_zero _)
  | _ :: _, [], _, hl, _, _, h' => absurd h' (Nat.not_lt_zero _)
  | k :: ks, v :: vs, hn, hl, 0, _, _ => by simp [ofL]
  | k :: ks, v :: vs, hn, hl, j + 1, h, h' => by
    have hn' := List.nodup_cons.1 hn
    have hj : j < ks.length := by simpa using h
    have hne : ¬ ks[j] = k := fun e => hn'.1 (e ▸ List.getElem_mem hj)
    simp only [List.zip_cons_cons, ofL, List.getElem_cons_succ, if_neg hne]
    exact ofL_in ks vs hn'.2 (by simpa using hl) j hj (by simpa using h')
theorem EntT.ofL {n : Nat} {S S' : Store} (ks : List Nat) (vs vs' : List AV) (hn : ∀ k ∈ ks, k < n) (hd : ks.Nodup) (h1 : ks.length = vs.length) (h2 : vs.length = vs'.length) (he : Ent (.tuple vs) S (.tuple vs') S') : EntT n (ofL (ks.zip vs)) S (ofL (ks.zip vs')) S' := by
  intro m w a hr ht
  have hv : RelV m (.tuple vs) (.tuple (ks.map fun k => a.getD k undef).toArray) := by
    refine .tuple (by simp [h1]) fun j hj => ?_
    have hjk : j < ks.length := by omega
    have := ht.2 ks[j] (hn _ (List.getElem_mem hjk))
    rw [ofL_in ks vs hd h1 j hjk hj] at this
    simpa [Array.getD, hjk] using this
  obtain ⟨m', k1, k2, k3, k4⟩ := he m w _ hr hv
  refine ⟨m', k1, k2, k3, ht.1, fun i hi => ?_⟩
  by_cases hk : i ∈ ks
  · obtain ⟨j, hj, rfl⟩ := List.mem_iff_getElem.1 hk
    rw [ofL_in ks vs' hd (by omega) j hj (by omega)]
    cases k4 with
    | tuple g1 g2 =>
      have := g2 j (by omega)
      simpa [Array.getD, hj] using this
  · rw [ofL_out ks vs' i hk]; exact .poison _
end Go.Du
